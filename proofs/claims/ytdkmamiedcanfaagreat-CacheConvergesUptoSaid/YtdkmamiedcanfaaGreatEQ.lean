/- The plain law. -/
import Derived.Test.YtdkmamiedcanfaaGreatEP
import Derived.Test.YtdkmamiedcanfaaGreatFP
import Derived.KernelRfl
set_option linter.unusedVariables false
set_option linter.unusedSimpArgs false
namespace Go.Proofs.YtdkmamiedcanfaaGreat
open Go Go.Fw
set_option maxRecDepth 100000
set_option linter.unusedVariables false
set_option linter.unusedSimpArgs false
section
variable {α:Type}
def S(c:α→Int)(l:List α):Prop:=l.Pairwise fun a b=>c b≤0→c a<0
def plc(c:α→Int):List α→Nat
 |[]=>0
 |y::l=>if c y<0 then plc c l+1 else 0
theorem Gs(c:α→Int):∀l,plc c l≤l.length
 |[]=>Nat.le_refl _
 |y::l=>by have:=Gs c l;unfold plc;split<;>simp<;>omega
theorem Jq{c:α→Int}:∀{l:List α},S c l→∀i (h:i<l.length),c l[i]<0↔i<plc c l
 |[],_,i,h=>absurd h (by simp)
 |y::l,hs,0,h=>by
  unfold plc
  by_cases hc:c y<0<;>simp[hc]
 |y::l,hs,i+1,h=>by
  have hs2:=List.pairwise_cons.1 hs
  have ih:=Jq hs2.2 i (by simpa using h)
  simp only[List.getElem_cons_succ]
  unfold plc
  by_cases hc:c y<0
  ·rw[if_pos hc,ih];omega
  ·rw[if_neg hc]
   exact⟨fun hi=>absurd (hs2.1 _ (List.getElem_mem (by simpa using h)) (Int.le_of_lt hi)) hc,fun hi=>by omega⟩
def mid(a b:Int):Int:=IntKind.i64.wrap (Lp .u64 (IntKind.u64.wrap (IntKind.i64.wrap (a+b))) 1)
theorem Ra{a b:Nat}(h:a+b≤4000000):mid (a:Int) (b:Int)=(((a+b)/2:Nat):Int):=by
 unfold mid Lp
 rw[show IntKind.i64.wrap ((a:Int)+b)=(a:Int)+b from Du (by omega) (by omega)]
 have e:IntKind.u64.wrap ((a:Int)+b)=((a+b:Nat):Int):=by simp[IntKind.wrap,IntKind.bits,IntKind.signed];omega
 rw[e]
 have e2:((a+b:Nat):Int).fdiv (2^(min (1:Int).toNat IntKind.u64.bits))=(((a+b)/2:Nat):Int):=by
  show((a+b:Nat):Int).fdiv 2=_
  rw[Int.fdiv_eq_ediv_of_nonneg _ (by omega)];omega
 rw[e2,Du (by omega) (by omega)]
def bsL(c:α→Int)(xs:List α):Nat→Int→Int→Option Int
 |0,_,_=>none
 |k+1,a,b=>if a<b then(rdI xs (mid a b)).bind fun y=>if c y<0 then bsL c xs k (IntKind.i64.wrap (mid a b+1)) b else bsL c xs k a (mid a b)else some a
theorem Fk{c:α→Int}{xs:List α}(hs:S c xs)(hl:xs.length≤1000000):∀(k a b:Nat),b-a<k→a≤plc c xs→plc c xs≤b→b≤xs.length→bsL c xs k (a:Int) (b:Int)=some (plc c xs:Int)
 |0,a,b,h,_,_,_=>by omega
 |k+1,a,b,h,h1,h2,h3=>by
  unfold bsL
  by_cases hab:a<b
  ·have hm:(a+b)/2<xs.length:=by omega
   rw[if_pos (by omega),Ra (by omega),BH hm,Option.bind_some]
   have hi:=Jq hs ((a+b)/2) hm
   by_cases hc:c xs[(a+b)/2]<0
   ·rw[if_pos hc]
    have e:IntKind.i64.wrap ((((a+b)/2:Nat):Int)+1)=(((a+b)/2+1:Nat):Int):=AW (by omega)
    rw[e]
    exact Fk hs hl k _ b (by omega) (by have:=hi.1 hc;omega) h2 h3
   ·rw[if_neg hc]
    exact Fk hs hl k a _ (by omega) h1 (by have:=mt hi.2 hc;omega) (by omega)
  ·rw[if_neg (by omega)];congr 1;omega
def CO(c:α→Int)(l:List α):Bool:=l.any fun y=>decide (c y=0)
theorem DT(c:α→Int)(y:α)(l:List α):CO c (y::l)=(decide (c y=0)||CO c l):=by simp[CO]
theorem EW{c:α→Int}{l:List α}(h:∀y∈l,0<c y):CO c l=false:=by
 simp only[CO,List.any_eq_false,decide_eq_true_eq]
 intro y hy;have:=h y hy;omega
theorem JJ{c:α→Int}:∀{l:List α},S c l→((l[plc c l]?).map fun y=>decide (c y=0)).getD false=CO c l
 |[],_=>rfl
 |y::l,hs=>by
  have hs2:=List.pairwise_cons.1 hs
  have ih:=JJ hs2.2
  rw[DT]
  unfold plc
  by_cases hc:c y<0
  ·rw[if_pos hc,List.getElem?_cons_succ,ih];simp;omega
  ·rw[if_neg hc]
   simp only[List.getElem?_cons_zero,Option.map_some,Option.getD_some]
   rw[EW];·simp
   intro z hz
   have:=hs2.1 z hz
   omega
theorem Rl{c:α→Int}{l:List α}(hs:S c l):(if(plc c l:Int)<(l.length:Int)then(rdI l (plc c l:Int)).bind fun y=>some (decide (c y=0))else some false)=some (CO c l):=by
 have h:=JJ hs
 by_cases hp:plc c l<l.length
 ·rw[if_pos (by omega),BH hp,Option.bind_some]
  rw[List.getElem?_eq_getElem hp]at h
  simp only[Option.map_some,Option.getD_some]at h
  rw[h]
 ·rw[if_neg (by omega)]
  rw[List.getElem?_eq_none (by omega)]at h
  simp only[Option.map_none,Option.getD_none]at h
  rw[←h]
def DB(c:α→Int)(x:α):List α→List α
 |[]=>[x]
 |y::l=>if c y<0 then y::DB c x l else x::y::l
theorem Fg(c:α→Int)(x:α):∀l,l.take (plc c l)++x::l.drop (plc c l)=DB c x l
 |[]=>rfl
 |y::l=>by
  unfold DB plc
  split
  ·rw[←Fg c x l];simp
  ·simp
theorem L9(c:α→Int)(x:α)(l:List α):(DB c x l).length=l.length+1:=by
 rw[←Fg];have:=Gs c l;simp;omega
theorem Ek(c:α→Int)(x z:α):∀l,z∈DB c x l↔z=x∨z∈l
 |[]=>by simp[DB]
 |y::l=>by
  have:=Ek c x z l
  unfold DB
  split
  ·simp only[List.mem_cons,this];exact⟨fun h=>h.elim (fun h=> .inr (.inl h)) fun h=>h.elim .inl fun h=> .inr (.inr h),fun h=>h.elim (fun h=> .inr (.inl h)) fun h=>h.elim .inl fun h=> .inr (.inr h)⟩
  ·simp
theorem JD{R:α→α→Prop}{c:α→Int}{x:α}(ht:∀a b d,R a b→R b d→R a d):∀{l:List α},(∀y∈l,c y<0→R y x)→(∀y∈l,¬c y<0→R x y)→l.Pairwise R→(DB c x l).Pairwise R
 |[],_,_,_=>by simp[DB]
 |y::l,h1,h2,hp=>by
  have hp2:=List.pairwise_cons.1 hp
  unfold DB
  split
  ·rename_i hc
   refine List.pairwise_cons.2 ⟨fun z hz=>?_,JD ht (fun z hz=>h1 z (List.mem_cons_of_mem _ hz)) (fun z hz=>h2 z (List.mem_cons_of_mem _ hz)) hp2.2⟩
   rcases(Ek c x z l).1 hz with rfl|hz
   ·exact h1 y (List.mem_cons_self ..) hc
   ·exact hp2.1 z hz
  ·rename_i hc
   have hxy:=h2 y (List.mem_cons_self ..) hc
   refine List.pairwise_cons.2 ⟨fun z hz=>?_,hp⟩
   rcases List.mem_cons.1 hz with rfl|hz
   ·exact hxy
   ·exact ht _ _ _ hxy (hp2.1 z hz)
theorem O5{c:α→Int}:∀{l:List α},S c l→CO c l=true→l.take (plc c l)++l.drop (plc c l+1)=l.filter fun y=>decide (c y≠0)
 |[],_,h=>by simp[CO]at h
 |y::l,hs,h=>by
  have hs2:=List.pairwise_cons.1 hs
  rw[DT]at h
  unfold plc
  by_cases hc:c y<0
  ·rw[if_pos hc,List.filter_cons_of_pos (by simp;omega),←O5 hs2.2 (by simp at h;rcases h with h|h<;>first|omega|exact h)]
   simp
  ·rw[if_neg hc]
   have hg:∀z∈l,0<c z:=fun z hz=>by have:=hs2.1 z hz;omega
   rw[EW hg]at h
   simp at h
   rw[List.filter_cons_of_neg (by simp[h]),List.filter_eq_self.2 fun z hz=>by have:=hg z hz;simp;omega]
   simp
end
theorem Ed(a b:ByteArray):GR a b<0↔lt a b:=by
 unfold GR
 by_cases h:lt a b
 ·simp[h]
 ·rw[if_neg h]
  by_cases h2:a=b
  ·rw[if_pos h2];simp[h]
  ·rw[if_neg h2];simp[h]
theorem Ey(a b:ByteArray):GR a b=0↔a=b:=by
 unfold GR
 by_cases h:lt a b
 ·simp[h,Et h]
 ·rw[if_neg h]
  by_cases h2:a=b<;>simp[h2]
theorem NK(a b:ByteArray):GR a b≤0↔lt a b∨a=b:=by
 rw[←Ed,←Ey];omega
theorem exb{α β:Type}{e:Option α}{f:α→Option β}(h:∃a,e=some a)(hf:∀a,e=some a→∃r,f a=some r):∃r,e.bind f=some r:=by
 obtain⟨a,ha⟩:=h;obtain⟨r,hr⟩:=hf a ha;exact⟨r,by rw[ha];exact hr⟩
theorem BD{α:Type}{p:Prop}[Decidable p]{a b:Option α}(h1:p→∃r,a=some r)(h2:¬p→∃r,b=some r):∃r,(if p then a else b)=some r:=by
 by_cases h:p
 ·rw[if_pos h];exact h1 h
 ·rw[if_neg h];exact h2 h
theorem Ba{α β:Type}{e:Option α}{f:α→β}(h:∃a,e=some a):∃r,e.map f=some r:=by
 obtain⟨a,ha⟩:=h;exact⟨f a,by rw[ha];rfl⟩
theorem Bn{p:Prop}[Decidable p](h:p):∃r,ck p=some r:=⟨(),BF h⟩
theorem AR{b:ByteArray}{i:Int}(h:0≤i)(h2:i<b.size):∃y,byI b i=some y:=by
 obtain⟨n,rfl⟩:∃n:Nat,i=n:=⟨i.toNat,by omega⟩
 have hs:n<b.size:=by omega
 exact⟨(b[n].toNat:Int),by unfold byI;rw[if_pos (by omega)];simp[hs]⟩
theorem AP{α:Type}{l:List α}{i:Int}(h:0≤i)(h2:i<l.length):∃y,rdI l i=some y:=by
 obtain⟨n,rfl⟩:∃n:Nat,i=n:=⟨i.toNat,by omega⟩
 exact⟨_,BH (by omega)⟩
theorem AT{α:Type}{xs ys:List α}(h:xs.length+ys.length≤4294967290):∃y,apI xs ys=some y:=⟨_,Dt h⟩
theorem Be{α:Type}{l:List α}{i:Nat}{y:α}(h:l[i]? =some y):rdI l (i:Int)=some y:=by rw[Sd];exact h
theorem AQ{α:Type}{l:List α}{i:Nat}{x:α}{xs:List α}(e:l.drop i=x::xs):l[i]? =some x:=by rw[←List.head?_drop,e];rfl
theorem AZ{α:Type}{l:List α}{i:Nat}{x:α}{xs:List α}(e:l.drop i=x::xs):l.drop (i+1)=xs:=by
 rw[←List.drop_drop,e];rfl
theorem BQ{α:Type}:∀{l:List α} {i:Nat} {x:α},l[i]? =some x→l.set i x=l
 |[],_,_,h=>by simp at h
 |y::l,0,x,h=>by simp at h;simp[h]
 |y::l,i+1,x,h=>by simp at h;simp[BQ h]
theorem CB{α:Type}{l:List α}(h:l.length≤4294967290):BI l=some l:=if_pos h
theorem GD{a b:ByteArray}(h:a.size+b.size≤9223372036854775807):KZ a b=some (a++b):=if_pos h
theorem bsize(a b:ByteArray):(a++b).size=a.size+b.size:=ByteArray.size_append
theorem J5{i:Nat}(h:0<(i:Int))(h2:i≤4294967296):IntKind.i64.wrap ((i:Int)-1)=((i-1:Nat):Int):=by rw[Du (by omega) (by omega)];omega
theorem CM{α:Type}{w:α→Nat}{x:α}:∀{l:List α},x∈l→w x+1≤wL w l
 |[],h=>by cases h
 |y::l,h=>by
  unfold wL
  simp only[List.map_cons,List.sum_cons]
  rcases List.mem_cons.1 h with rfl|h
  ·omega
  ·have:=CM (w:=w) h;unfold wL at this;omega
open Go Go.Fw
set_option maxRecDepth 100000
set_option linter.unusedVariables false
set_option linter.unusedSimpArgs false
theorem P4(f:Ay):1≤CZ f:=by rw[E0];omega
theorem DH(v:Ab):1≤AK v:=by rw[Bu];omega
theorem BM{v x:Ab}(h:x∈v.At):AK x<AK v:=by
 rw[Bu v];have:=CM (w:=AK) h;unfold wN;omega
theorem Bo{v:Ab}{x:Ay}(h:x∈v.Ae):AK x.V<AK v:=by
 rw[Bu v];have:=CM (w:=CZ) h;rw[E0]at this;unfold wN at*;omega
theorem Ny{v:Ab}{x:Ay}(h:x∈v.Ae):x.Name.size<AK v:=by
 rw[Bu v];have:=CM (w:=CZ) h;rw[E0]at this;unfold wN wS at*;omega
theorem E2(v:Ab):v.At.length<AK v:=by
 rw[Bu v];have:=CV DH v.At;unfold wN;omega
theorem EH(v:Ab):v.Ae.length<AK v:=by
 rw[Bu v];have:=CV P4 v.Ae;unfold wN;omega
theorem Xn(v:Ab):v.S.size<AK v:=by
 rw[Bu v];unfold wN wS;omega
theorem Cr(x:Ab):(⟨x.Kind,x.N,x.S,x.At,x.Ae⟩:Ab)=x:=by cases x;rfl
theorem PG(x:Ay):(⟨x.Name,x.V⟩:Ay)=x:=by cases x;rfl
theorem FM(rc:Ab→Option (List Ab×List Ay))(l:List Ab)(h:∀y∈l,rc y=some (y.At,y.Ae)):∀(xs:List Ab) (i:Nat),l.drop i=xs→F158_l2 rc xs i l=some l
 |[],i,_=>by rw[F158_l2]
 |x::xs,i,e=>by
  have hx:=AQ e
  rw[F158_l2,Be hx]
  simp only[Option.bind_some]
  rw[h x (List.mem_of_getElem? hx)]
  simp only[Option.bind_some,Int.toNat_natCast]
  rw[Cr]
  rw[BQ hx]
  exact FM rc l h xs (i+1) (AZ e)
theorem FL(rc:Ab→Option (List Ab×List Ay))(l:List Ay)(h:∀y∈l,rc y.V=some (y.V.At,y.V.Ae)):∀(xs:List Ay) (i:Nat),l.drop i=xs→F158_l9 rc xs i l=some l
 |[],i,_=>by rw[F158_l9]
 |x::xs,i,e=>by
  have hx:=AQ e
  rw[F158_l9,Be hx]
  simp only[Option.bind_some]
  rw[h x (List.mem_of_getElem? hx)]
  simp only[Option.bind_some,Int.toNat_natCast]
  rw[Cr,PG]
  rw[BQ hx]
  exact FL rc l h xs (i+1) (AZ e)
theorem Ea:∀(k:Nat) (v:Ab),AK v≤k→AK v≤4294967290→F158k k v=some (v.At,v.Ae)
 |0,v,h,_=>by have:=DH v;omega
 |k+1,v,h,h2=>by
  have l1:=E2 v
  have l2:=EH v
  rw[F158k,F158,CB (by omega),Option.bind_some,BF (by omega),Option.bind_some,FM _ _ (fun y hy=>Ea k y (by have:=BM hy;omega) (by have:=BM hy;omega)) _ 0 (List.drop_zero ..),Option.bind_some,CB (by omega),Option.bind_some,BF (by omega),Option.bind_some,FL _ _ (fun y hy=>Ea k y.V (by have:=Bo hy;omega) (by have:=Bo hy;omega)) _ 0 (List.drop_zero ..)]
  rfl
theorem HQ(v:Ab)(h:AK v≤4000000):F146 v=some v:=by
 rw[F146,F118,Ea]
 ·rfl
 ·rw[Bu];simp only[wN,wS,wL,List.map_cons,List.map_nil,List.sum_cons,List.sum_nil,show(⟨#[]⟩:ByteArray).size=0 from rfl];omega
 ·rw[Bu];simp only[wN,wS,wL,List.map_cons,List.map_nil,List.sum_cons,List.sum_nil,show(⟨#[]⟩:ByteArray).size=0 from rfl];omega
theorem G6(rc:Ab→Option Int):∀(l:List Ab) (i:Nat) (n:Int),(∀y∈l,∃r,rc y=some r)→∃r,F54_l1 rc l i n=some r
 |[],i,n,_=>⟨n,by rw[F54_l1]⟩
 |x::l,i,n,h=>by
  rw[F54_l1]
  exact exb (h x (List.mem_cons_self ..)) fun _ _=>G6 rc l _ _ fun y hy=>h y (List.mem_cons_of_mem _ hy)
theorem G5(rc:Ab→Option Int):∀(l:List Ay) (i:Nat) (n:Int),(∀y∈l,∃r,rc y.V=some r)→∃r,F54_l5 rc l i n=some r
 |[],i,n,_=>⟨n,by rw[F54_l5]⟩
 |x::l,i,n,h=>by
  rw[F54_l5]
  exact exb (h x (List.mem_cons_self ..)) fun _ _=>G5 rc l _ _ fun y hy=>h y (List.mem_cons_of_mem _ hy)
theorem Ef:∀(k:Nat) (v:Ab),AK v≤k→AK v≤4294967290→∃r,F54k k v=some r
 |0,v,h,_=>by have:=DH v;omega
 |k+1,v,h,h2=>by
  have l1:=E2 v
  have l2:=EH v
  rw[F54k,F54]
  exact exb (exb (Bn (by omega)) fun _ _=>G6 _ _ _ _ fun y hy=>Ef k y (by have:=BM hy;omega) (by have:=BM hy;omega)) fun _ _=>exb (exb (Bn (by omega)) fun _ _=>G5 _ _ _ _ fun y hy=>Ef k y.V (by have:=Bo hy;omega) (by have:=Bo hy;omega)) fun _ _=>⟨_,rfl⟩
theorem GY(rc:Ab→Option Int):∀(l:List Ab) (i:Nat) (n:Int),(∀y∈l,∃r,rc y=some r)→∃r,F182_l1 rc l i n=some r
 |[],i,n,_=>⟨n,by rw[F182_l1]⟩
 |x::l,i,n,h=>by
  rw[F182_l1]
  exact exb (h x (List.mem_cons_self ..)) fun _ _=>GY rc l _ _ fun y hy=>h y (List.mem_cons_of_mem _ hy)
theorem GX(rc:Ab→Option Int):∀(l:List Ay) (i:Nat) (n:Int),(∀y∈l,∃r,rc y.V=some r)→∃r,F182_l5 rc l i n=some r
 |[],i,n,_=>⟨n,by rw[F182_l5]⟩
 |x::l,i,n,h=>by
  rw[F182_l5]
  exact exb (h x (List.mem_cons_self ..)) fun _ _=>GX rc l _ _ fun y hy=>h y (List.mem_cons_of_mem _ hy)
theorem E7:∀(k:Nat) (v:Ab),AK v≤k→AK v≤4294967290→∃r,F182k k v=some r
 |0,v,h,_=>by have:=DH v;omega
 |k+1,v,h,h2=>by
  have l1:=E2 v
  have l2:=EH v
  rw[F182k,F182]
  exact exb (exb (Bn (by omega)) fun _ _=>GY _ _ _ _ fun y hy=>E7 k y (by have:=BM hy;omega) (by have:=BM hy;omega)) fun _ _=>exb (exb (Bn (by omega)) fun _ _=>GX _ _ _ _ fun y hy=>E7 k y.V (by have:=Bo hy;omega) (by have:=Bo hy;omega)) fun _ _=>⟨_,rfl⟩
theorem I7(s:ByteArray)(hs:s.size≤4294967290):∀(n i k:Nat),s.size=i+n→n<k→∃r,F205_l1 s k (i:Int)=some r
 |0,i,k+1,h,_=>by rw[F205_l1,if_neg (by omega)];exact⟨_,rfl⟩
 |n+1,i,k+1,h,hk=>by
  rw[F205_l1,if_pos (by omega),AW (by omega)]
  have ih:=I7 s hs n (i+1) k (by omega) (by omega)
  repeat'(first|exact⟨_,rfl⟩|exact ih|exact Bn (by omega)|exact AR (by omega) (by omega)|exact AP (by omega) (by omega)|exact AT (by omega)|with_reducible refine BD (fun _=>?_) (fun _=>?_)|with_reducible refine exb ?_ (fun _ _=>?_)|with_reducible refine Ba ?_|split)
theorem ND(s:ByteArray)(hs:s.size≤4294967290):∃r,F205 s=some r:=by
 rw[F205]
 exact exb (by have:=I7 s hs s.size 0 1099511627776 (by omega) (by omega);exact this) fun o _=>by repeat'(first|exact⟨_,rfl⟩|exact Bn (by omega)|exact AR (by omega) (by omega)|exact AP (by omega) (by omega)|exact AT (by omega)|with_reducible refine BD (fun _=>?_) (fun _=>?_)|with_reducible refine exb ?_ (fun _ _=>?_)|with_reducible refine Ba ?_|split)
theorem GZ(s:ByteArray)(hs:s.size≤4294967290):∀(n i k:Nat),s.size=i+n→n<k→∃r,F199_l1 s k (i:Int)=some r
 |0,i,k+1,h,_=>by rw[F199_l1,if_neg (by omega)];exact⟨_,rfl⟩
 |n+1,i,k+1,h,hk=>by
  rw[F199_l1,if_pos (by omega),AW (by omega)]
  have ih:=GZ s hs n (i+1) k (by omega) (by omega)
  repeat'(first|exact⟨_,rfl⟩|exact ih|exact Bn (by omega)|exact AR (by omega) (by omega)|exact AP (by omega) (by omega)|exact AT (by omega)|with_reducible refine BD (fun _=>?_) (fun _=>?_)|with_reducible refine exb ?_ (fun _ _=>?_)|with_reducible refine Ba ?_|split)
theorem Lh(s:ByteArray)(hs:s.size≤4294967290):∃r,F199 s=some r:=by
 rw[F199]
 exact exb (by have:=GZ s hs s.size 0 1099511627776 (by omega) (by omega);exact this) fun o _=>by repeat'(first|exact⟨_,rfl⟩|exact Bn (by omega)|exact AR (by omega) (by omega)|exact AP (by omega) (by omega)|exact AT (by omega)|with_reducible refine BD (fun _=>?_) (fun _=>?_)|with_reducible refine exb ?_ (fun _ _=>?_)|with_reducible refine Ba ?_|split)
theorem Ka(v:Ab)(hs:v.S.size≤4294967290):∃r,F198 v=some r:=by
 rw[F198]
 have h:=ND v.S hs
 repeat'(first|exact⟨_,rfl⟩|exact h|exact Bn (by omega)|exact AR (by omega) (by omega)|exact AP (by omega) (by omega)|exact AT (by omega)|with_reducible refine BD (fun _=>?_) (fun _=>?_)|with_reducible refine exb ?_ (fun _ _=>?_)|with_reducible refine Ba ?_|split)
theorem E6(rc:Ab→Int→Option Bool)(d:Int):∀(l:List Ab) (i:Nat),(∀y∈l,∀d,∃r,rc y d=some r)→∃r,F181_l16 rc d l i=some r
 |[],i,_=>⟨_,by rw[F181_l16]⟩
 |x::l,i,h=>by
  rw[F181_l16]
  have ih:=E6 rc d l (i+1) fun y hy=>h y (List.mem_cons_of_mem _ hy)
  exact exb (h x (List.mem_cons_self ..) _) fun _ _=>by repeat'(first|exact⟨_,rfl⟩|exact ih|exact Bn (by omega)|exact AR (by omega) (by omega)|exact AP (by omega) (by omega)|exact AT (by omega)|with_reducible refine BD (fun _=>?_) (fun _=>?_)|with_reducible refine exb ?_ (fun _ _=>?_)|with_reducible refine Ba ?_|split)
theorem E5(rc:Ab→Int→Option Bool)(v:Ab)(d:Int)(hv:AK v≤4294967290)(h:∀y∈v.Ae,∀d,∃r,rc y.V d=some r):∀(l:List Ay) (i:Nat),v.Ae.drop i=l→∃r,F181_l21 rc v d l i=some r
 |[],i,_=>⟨_,by rw[F181_l21]⟩
 |x::l,i,e=>by
  rw[F181_l21]
  have ih:=E5 rc v d hv h l (i+1) (AZ e)
  have hx:=List.mem_of_getElem? (AQ e)
  have hn:=Lh x.Name (by have:=Ny hx;omega)
  have hr:=h x hx (IntKind.i64.wrap (d-1))
  have hi:=(List.getElem?_eq_some_iff.1 (AQ e)).1
  have hl:=EH v
  by_cases h0:0<(i:Int)
  ·have hp:∃y,rdI v.Ae (IntKind.i64.wrap ((i:Int)-1))=some y:=by rw[J5 h0 (by omega)];exact AP (by omega) (by omega)
   repeat'(first|exact⟨_,rfl⟩|exact ih|exact hn|exact hr|exact hp|exact Bn (by omega)|exact AR (by omega) (by omega)|exact AP (by omega) (by omega)|exact AT (by omega)|with_reducible refine BD (fun _=>?_) (fun _=>?_)|with_reducible refine exb ?_ (fun _ _=>?_)|with_reducible refine Ba ?_|split)
  ·rw[if_neg h0]
   repeat'(first|exact⟨_,rfl⟩|exact ih|exact hn|exact hr|exact Bn (by omega)|exact AR (by omega) (by omega)|exact AP (by omega) (by omega)|exact AT (by omega)|with_reducible refine BD (fun _=>?_) (fun _=>?_)|with_reducible refine exb ?_ (fun _ _=>?_)|with_reducible refine Ba ?_|split)
theorem Ev:∀(k:Nat) (v:Ab) (d:Int),AK v≤k→AK v≤4294967290→∃r,F181k k v d=some r
 |0,v,d,h,_=>by have:=DH v;omega
 |k+1,v,d,h,h2=>by
  have l1:=E2 v
  have l2:=EH v
  have l3:=Xn v
  rw[F181k,F181]
  have g0:=Ka v (by omega)
  have g1:=E6 (F181k k) d v.At 0 fun y hy d=>Ev k y d (by have:=BM hy;omega) (by have:=BM hy;omega)
  have g2:=E5 (F181k k) v d h2 (fun y hy d=>Ev k y.V d (by have:=Bo hy;omega) (by have:=Bo hy;omega)) v.Ae 0 (List.drop_zero ..)
  repeat'(first|exact⟨_,rfl⟩|exact g0|exact g1|exact g2|exact Bn (by omega)|exact AR (by omega) (by omega)|exact AP (by omega) (by omega)|exact AT (by omega)|with_reducible refine BD (fun _=>?_) (fun _=>?_)|with_reducible refine exb ?_ (fun _ _=>?_)|with_reducible refine Ba ?_|split)
theorem DS(v:Ab)(h:AK v≤4000000):∃r,F144 v=some r:=by
 rw[F144]
 have g1:=Ev 1099511627776 v 12 (by omega) (by omega)
 have g2:=E7 1099511627776 v (by omega) (by omega)
 repeat'(first|exact⟨_,rfl⟩|exact g1|exact g2|exact Bn (by omega)|exact AR (by omega) (by omega)|exact AP (by omega) (by omega)|exact AT (by omega)|with_reducible refine BD (fun _=>?_) (fun _=>?_)|with_reducible refine exb ?_ (fun _ _=>?_)|with_reducible refine Ba ?_|split)
open Go Go.Fw
set_option maxRecDepth 100000
set_option linter.unusedVariables false
set_option linter.unusedSimpArgs false
structure OW(o:Object):Prop where
 key:o.Meta.Kind.size+o.Meta.Namespace.size+o.Meta.Name.size≤4000000
 labels:o.Meta.Ax.length≤4000000
 D3:o.Meta.AF.length≤4000000
 IQ:o.Meta.Au.length≤4000000
 Ff:o.Meta.Aj.length≤4000000
 man:∀m∈o.Meta.Aj,m.Ae.length≤4000000∧m.Name.size≤4000000
 spec:AK o.Spec≤4000000
 status:AK o.Status≤4000000
 label:∀l∈o.Meta.Ax,l.Key.size≤4000000∧l.Value.size≤4000000
 owner:∀l∈o.Meta.AF,l.Kind.size≤4000000∧l.Name.size≤4000000
 fin:∀l∈o.Meta.Au,l.size≤4000000
theorem oW{o:Object}(h:Cy o≤4000000):OW o:=by
 unfold Cy I1 at h
 have a1:=CV (w:=E4) (fun a=>by unfold E4;omega) o.Meta.Ax
 have a2:=CV (w:=E3) (fun a=>by unfold E3;omega) o.Meta.AF
 have a3:=CV (w:=wS) Nz o.Meta.Au
 have a4:=CV (w:=Dk) (fun a=>by unfold Dk;omega) o.Meta.Aj
 simp only[wN,wS]at h a3
 refine⟨by omega,by omega,by omega,by omega,by omega,fun m hm=>?_,by omega,by omega,fun l hl=>?_,fun l hl=>?_,fun l hl=>?_⟩
 ·have:=CM (w:=Dk) hm
  unfold Dk at this
  have b:=CV (w:=wS) Nz m.Ae
  simp only[wS]at this b
  unfold Dk at h;simp only[wS]at h
  omega
 ·have:=CM (w:=E4) hl
  unfold E4 at this h;simp only[wS]at this h
  omega
 ·have:=CM (w:=E3) hl
  unfold E3 at this h;simp only[wS,wN]at this h
  omega
 ·have:wS l+1≤_:=CM (w:=wS) hl
  have e:wS l=l.size+1:=rfl
  omega
def Ej(m:Meta):ByteArray:=(((m.Kind++(⟨#[47]⟩:ByteArray))++m.Namespace)++(⟨#[47]⟩:ByteArray))++m.Name
def AA(o:Object):ByteArray:=Ej o.Meta
theorem sl1:(⟨#[47]⟩:ByteArray).size=1:=rfl
theorem DU{m:Meta}(h:m.Kind.size+m.Namespace.size+m.Name.size≤4000000):F33 m=some (Ej m):=by
 rw[F33,F59,GD (by rw[sl1];omega),Option.bind_some,GD (by rw[bsize,sl1];omega),Option.bind_some,GD (by rw[bsize,bsize,sl1];omega),Option.bind_some,GD (by rw[bsize,bsize,bsize,sl1];omega)]
 rfl
theorem DA{m:Meta}(h:m.Kind.size+m.Namespace.size+m.Name.size≤4000000):F39 m=some (Ej m):=DU h
theorem IF{o:Object}(h:OW o):F92 o=some (AA o):=by
 rw[F92,DA h.key];rfl
theorem Hj(s:ByteArray)(hs:s.size≤4294967290):∀(n i k:Nat),s.size=i+n→n<k→∃r,F174_l1 s k (i:Int)=some r
 |0,i,k+1,h,_=>by rw[F174_l1,if_neg (by omega)];exact⟨_,rfl⟩
 |n+1,i,k+1,h,hk=>by
  rw[F174_l1,if_pos (by omega),AW (by omega)]
  have ih:=Hj s hs n (i+1) k (by omega) (by omega)
  repeat'(first|exact⟨_,rfl⟩|exact ih|exact Bn (by omega)|exact AR (by omega) (by omega)|exact AP (by omega) (by omega)|exact AT (by omega)|with_reducible refine BD (fun _=>?_) (fun _=>?_)|with_reducible refine exb ?_ (fun _ _=>?_)|with_reducible refine Ba ?_|split)
theorem Hk(s:ByteArray)(hs:s.size≤4294967290):∃r,F174 s=some r:=by
 rw[F174]
 exact exb (by have:=Hj s hs s.size 0 1099511627776 (by omega) (by omega);exact this) fun o _=>by repeat'(first|exact⟨_,rfl⟩|exact Bn (by omega)|exact AR (by omega) (by omega)|exact AP (by omega) (by omega)|exact AT (by omega)|with_reducible refine BD (fun _=>?_) (fun _=>?_)|with_reducible refine exb ?_ (fun _ _=>?_)|with_reducible refine Ba ?_|split)
theorem Hi(s:ByteArray)(hs:s.size≤4294967290):∀(n i k:Nat),s.size=i+n→n<k→∃r,F176_l1 s k (i:Int)=some r
 |0,i,k+1,h,_=>by rw[F176_l1,if_neg (by omega)];exact⟨_,rfl⟩
 |n+1,i,k+1,h,hk=>by
  rw[F176_l1,if_pos (by omega),AW (by omega)]
  have ih:=Hi s hs n (i+1) k (by omega) (by omega)
  repeat'(first|exact⟨_,rfl⟩|exact ih|exact Bn (by omega)|exact AR (by omega) (by omega)|exact AP (by omega) (by omega)|exact AT (by omega)|with_reducible refine BD (fun _=>?_) (fun _=>?_)|with_reducible refine exb ?_ (fun _ _=>?_)|with_reducible refine Ba ?_|split)
theorem DN(s:ByteArray)(hs:s.size≤4294967290):∃r,F176 s=some r:=by
 rw[F176]
 refine exb (by have:=Hi s hs s.size 0 1099511627776 (by omega) (by omega);exact this) fun o _=>?_
 have hw:1≤(s.size:Int)→∃y,byI s (IntKind.i64.wrap ((s.size:Int)-1))=some y:=fun h=>by
  rw[J5 (by omega) (by omega)];exact AR (by omega) (by omega)
 repeat'(first|exact⟨_,rfl⟩|exact hw (by assumption)|exact Bn (by omega)|exact AR (by omega) (by omega)|exact AP (by omega) (by omega)|exact AT (by omega)|with_reducible refine BD (fun _=>?_) (fun _=>?_)|with_reducible refine exb ?_ (fun _ _=>?_)|with_reducible refine Ba ?_|split)
theorem Km(s:ByteArray)(hs:s.size≤4294967290):∃r,F175 s=some r:=by
 rw[F175]
 have h:=DN s hs
 repeat'(first|exact⟨_,rfl⟩|exact h|exact Bn (by omega)|exact AR (by omega) (by omega)|exact AP (by omega) (by omega)|exact AT (by omega)|with_reducible refine BD (fun _=>?_) (fun _=>?_)|with_reducible refine exb ?_ (fun _ _=>?_)|with_reducible refine Ba ?_|split)
theorem GU(n:Int):∃r,F155 n=some r:=by
 rw[F155]
 repeat'(first|exact⟨_,rfl⟩|exact Bn (by omega)|exact AR (by omega) (by omega)|exact AP (by omega) (by omega)|exact AT (by omega)|with_reducible refine BD (fun _=>?_) (fun _=>?_)|with_reducible refine exb ?_ (fun _ _=>?_)|with_reducible refine Ba ?_|split)
theorem Jx(s:ByteArray)(hs:s.size≤4294967290):∀(n i k:Nat),s.size=i+n→n<k→∃r,F112_l8 s k (i:Int)=some r
 |0,i,k+1,h,_=>by rw[F112_l8,if_neg (by omega)];exact⟨_,rfl⟩
 |n+1,i,k+1,h,hk=>by
  rw[F112_l8,if_pos (by omega),AW (by omega)]
  have ih:=Jx s hs n (i+1) k (by omega) (by omega)
  repeat'(first|exact⟨_,rfl⟩|exact ih|exact GU _|exact Bn (by omega)|exact AR (by omega) (by omega)|exact AP (by omega) (by omega)|exact AT (by omega)|with_reducible refine BD (fun _=>?_) (fun _=>?_)|with_reducible refine exb ?_ (fun _ _=>?_)|with_reducible refine Ba ?_|split)
theorem NI{s:ByteArray}(h:¬s=(⟨#[]⟩:ByteArray)):0<s.size:=by
 rcases Nat.eq_zero_or_pos s.size with h0|h0
 ·refine(h ?_).elim
  obtain⟨a⟩:=s
  have:a= #[]:=Array.size_eq_zero_iff.1 h0
  rw[this]
 ·exact h0
theorem N7(s:ByteArray)(hs:s.size≤4294967290):∃r,F112 s=some r:=by
 rw[F112]
 have h8:∃r,F112_l8 s 1099511627776 0=some r:=Jx s hs s.size 0 1099511627776 (by omega) (by omega)
 have h0:¬s=(⟨#[]⟩:ByteArray)→∃y,byI s 0=some y:=fun h=>AR (by omega) (by have:=NI h;omega)
 repeat'(first|exact⟨_,rfl⟩|exact h8|exact h0 (by assumption)|exact Bn (by omega)|exact AR (by omega) (by omega)|exact AP (by omega) (by omega)|exact AT (by omega)|with_reducible refine BD (fun _=>?_) (fun _=>?_)|with_reducible refine exb ?_ (fun _ _=>?_)|with_reducible refine Ba ?_|split)
theorem Jw(s:ByteArray)(hs:s.size≤4294967290):∀(n i k:Nat),s.size=i+n→n<k→∃r,F114_l2 s k (i:Int)=some r
 |0,i,k+1,h,_=>by rw[F114_l2,if_neg (by omega)];exact⟨_,rfl⟩
 |n+1,i,k+1,h,hk=>by
  rw[F114_l2,if_pos (by omega),AW (by omega)]
  have ih:=Jw s hs n (i+1) k (by omega) (by omega)
  repeat'(first|exact⟨_,rfl⟩|exact ih|exact GU _|exact Bn (by omega)|exact AR (by omega) (by omega)|exact AP (by omega) (by omega)|exact AT (by omega)|with_reducible refine BD (fun _=>?_) (fun _=>?_)|with_reducible refine exb ?_ (fun _ _=>?_)|with_reducible refine Ba ?_|split)
theorem N4(s:ByteArray)(hs:s.size≤4294967290):∃r,F114 s=some r:=by
 rw[F114]
 have h2:∃r,F114_l2 s 1099511627776 0=some r:=Jw s hs s.size 0 1099511627776 (by omega) (by omega)
 repeat'(first|exact⟨_,rfl⟩|exact h2|exact Bn (by omega)|exact AR (by omega) (by omega)|exact AP (by omega) (by omega)|exact AT (by omega)|with_reducible refine BD (fun _=>?_) (fun _=>?_)|with_reducible refine exb ?_ (fun _ _=>?_)|with_reducible refine Ba ?_|split)
theorem Ge(l:List Label)(hl:l.length≤4294967290)(h:∀x∈l,x.Key.size≤4294967290∧x.Value.size≤4294967290):∀(xs:List Label) (i:Nat),l.drop i=xs→∃r,F177_l2 l xs i=some r
 |[],i,_=>⟨_,by rw[F177_l2]⟩
 |x::xs,i,e=>by
  rw[F177_l2]
  have ih:=Ge l hl h xs (i+1) (AZ e)
  have hx:=List.mem_of_getElem? (AQ e)
  have hi:=(List.getElem?_eq_some_iff.1 (AQ e)).1
  have g1:=N7 x.Key (h x hx).1
  have g2:=N4 x.Value (h x hx).2
  have hp:0<(i:Int)→∃y,rdI l (IntKind.i64.wrap ((i:Int)-1))=some y:=fun h0=>by rw[J5 h0 (by omega)];exact AP (by omega) (by omega)
  repeat'(first|exact⟨_,rfl⟩|exact ih|exact g1|exact g2|exact hp (by assumption)|exact Bn (by omega)|exact AR (by omega) (by omega)|exact AP (by omega) (by omega)|exact AT (by omega)|with_reducible refine BD (fun _=>?_) (fun _=>?_)|with_reducible refine exb ?_ (fun _ _=>?_)|with_reducible refine Ba ?_|split)
theorem Ko(l:List Label)(hl:l.length≤4294967290)(h:∀x∈l,x.Key.size≤4294967290∧x.Value.size≤4294967290):∃r,F177 l=some r:=by
 rw[F177]
 have g:=Ge l hl h l 0 (List.drop_zero ..)
 repeat'(first|exact⟨_,rfl⟩|exact g|exact Bn (by omega)|exact AR (by omega) (by omega)|exact AP (by omega) (by omega)|exact AT (by omega)|with_reducible refine BD (fun _=>?_) (fun _=>?_)|with_reducible refine exb ?_ (fun _ _=>?_)|with_reducible refine Ba ?_|split)
theorem LU:∀(l:List BO) (i:Nat) (a:List (Int×Bool)) (n:Int),(∀x∈l,x.Kind.size≤4294967290∧x.Name.size≤4294967290)→∃r,F178_l1 l i a n=some r
 |[],i,a,n,_=>⟨_,by rw[F178_l1]⟩
 |x::l,i,a,n,h=>by
  rw[F178_l1]
  have ih:=fun a n=>LU l (i+1) a n fun y hy=>h y (List.mem_cons_of_mem _ hy)
  have g1:=Hk x.Kind (h x (List.mem_cons_self ..)).1
  have g2:=DN x.Name (h x (List.mem_cons_self ..)).2
  repeat'(first|exact⟨_,rfl⟩|exact ih _ _|exact g1|exact g2|exact Bn (by omega)|exact AR (by omega) (by omega)|exact AP (by omega) (by omega)|exact AT (by omega)|with_reducible refine BD (fun _=>?_) (fun _=>?_)|with_reducible refine exb ?_ (fun _ _=>?_)|with_reducible refine Ba ?_|split)
theorem Q4(l:List BO)(hl:l.length≤4294967290)(h:∀x∈l,x.Kind.size≤4294967290∧x.Name.size≤4294967290):∃r,F178 l=some r:=by
 rw[F178]
 have g:=LU l 0 [] 0 h
 repeat'(first|exact⟨_,rfl⟩|exact g|exact Bn (by omega)|exact AR (by omega) (by omega)|exact AP (by omega) (by omega)|exact AT (by omega)|with_reducible refine BD (fun _=>?_) (fun _=>?_)|with_reducible refine exb ?_ (fun _ _=>?_)|with_reducible refine Ba ?_|split)
theorem Mg:∀(l:List ByteArray) (i:Nat) (a:List (ByteArray×Bool)),(∀x∈l,x.size≤4294967290)→∃r,F179_l1 l i a=some r
 |[],i,a,_=>⟨_,by rw[F179_l1]⟩
 |x::l,i,a,h=>by
  rw[F179_l1]
  have ih:=fun a=>Mg l (i+1) a fun y hy=>h y (List.mem_cons_of_mem _ hy)
  have g1:=DN x (h x (List.mem_cons_self ..))
  repeat'(first|exact⟨_,rfl⟩|exact ih _|exact g1|exact Bn (by omega)|exact AR (by omega) (by omega)|exact AP (by omega) (by omega)|exact AT (by omega)|with_reducible refine BD (fun _=>?_) (fun _=>?_)|with_reducible refine exb ?_ (fun _ _=>?_)|with_reducible refine Ba ?_|split)
theorem Rm(l:List ByteArray)(hl:l.length≤4294967290)(h:∀x∈l,x.size≤4294967290):∃r,F179 l=some r:=by
 rw[F179]
 have g:=Mg l 0 [] h
 repeat'(first|exact⟨_,rfl⟩|exact g|exact Bn (by omega)|exact AR (by omega) (by omega)|exact AP (by omega) (by omega)|exact AT (by omega)|with_reducible refine BD (fun _=>?_) (fun _=>?_)|with_reducible refine exb ?_ (fun _ _=>?_)|with_reducible refine Ba ?_|split)
theorem LD(l:List ByteArray)(hl:l.length≤4294967290):∀(n i k:Nat),l.length≤i+n→1≤i→i≤4294967291→n<k→∃r,F197_l1 l k (i:Int)=some r
 |0,i,k+1,h,_,_,_=>by rw[F197_l1,if_neg (by omega)];exact⟨_,rfl⟩
 |n+1,i,k+1,h,h1,h2,hk=>by
  rw[F197_l1]
  by_cases hi:(i:Int)<(l.length:Int)
  ·rw[if_pos hi,AW (by omega),J5 (by omega) (by omega)]
   have ih:=LD l hl n (i+1) k (by omega) (by omega) (by omega) (by omega)
   repeat'(first|exact⟨_,rfl⟩|exact ih|exact Bn (by omega)|exact AR (by omega) (by omega)|exact AP (by omega) (by omega)|exact AT (by omega)|with_reducible refine BD (fun _=>?_) (fun _=>?_)|with_reducible refine exb ?_ (fun _ _=>?_)|with_reducible refine Ba ?_|split)
  ·rw[if_neg hi];exact⟨_,rfl⟩
theorem QU(l:List ByteArray)(hl:l.length≤4294967290):∃r,F197 l=some r:=by
 rw[F197]
 have g:∃r,F197_l1 l 1099511627776 1=some r:=LD l hl l.length 1 1099511627776 (by omega) (by omega) (by omega) (by omega)
 repeat'(first|exact⟨_,rfl⟩|exact g|exact Bn (by omega)|exact AR (by omega) (by omega)|exact AP (by omega) (by omega)|exact AT (by omega)|with_reducible refine BD (fun _=>?_) (fun _=>?_)|with_reducible refine exb ?_ (fun _ _=>?_)|with_reducible refine Ba ?_|split)
theorem L6(l:List AI)(hl:l.length≤4294967290)(h:∀x∈l,x.Ae.length≤4294967290∧x.Name.size≤4294967290):∀(xs:List AI) (i:Nat),l.drop i=xs→∃r,F180_l1 l xs i=some r
 |[],i,_=>⟨_,by rw[F180_l1]⟩
 |x::xs,i,e=>by
  rw[F180_l1]
  have ih:=L6 l hl h xs (i+1) (AZ e)
  have hx:=List.mem_of_getElem? (AQ e)
  have hi:=(List.getElem?_eq_some_iff.1 (AQ e)).1
  have g1:=DN x.Name (h x hx).2
  have g2:=QU x.Ae (h x hx).1
  have hp:0<(i:Int)→∃y,rdI l (IntKind.i64.wrap ((i:Int)-1))=some y:=fun h0=>by rw[J5 h0 (by omega)];exact AP (by omega) (by omega)
  repeat'(first|exact⟨_,rfl⟩|exact ih|exact g1|exact g2|exact hp (by assumption)|exact Bn (by omega)|exact AR (by omega) (by omega)|exact AP (by omega) (by omega)|exact AT (by omega)|with_reducible refine BD (fun _=>?_) (fun _=>?_)|with_reducible refine exb ?_ (fun _ _=>?_)|with_reducible refine Ba ?_|split)
theorem Rb(l:List AI)(hl:l.length≤4294967290)(h:∀x∈l,x.Ae.length≤4294967290∧x.Name.size≤4294967290):∃r,F180 l=some r:=by
 rw[F180]
 have g:=L6 l hl h l 0 (List.drop_zero ..)
 repeat'(first|exact⟨_,rfl⟩|exact g|exact Bn (by omega)|exact AR (by omega) (by omega)|exact AP (by omega) (by omega)|exact AT (by omega)|with_reducible refine BD (fun _=>?_) (fun _=>?_)|with_reducible refine exb ?_ (fun _ _=>?_)|with_reducible refine Ba ?_|split)
theorem Gd{o:Object}(h:OW o):∃r,F143 o.Meta=some r:=by
 rw[F143]
 have g1:=Hk o.Meta.Kind (by have:=h.key;omega)
 have g2:=Km o.Meta.Namespace (by have:=h.key;omega)
 have g3:=DN o.Meta.Name (by have:=h.key;omega)
 have g4:=Ko o.Meta.Ax (by have:=h.labels;omega) (fun x hx=>by have:=h.label x hx;omega)
 have g5:=Q4 o.Meta.AF (by have:=h.D3;omega) (fun x hx=>by have:=h.owner x hx;omega)
 have g6:=Rm o.Meta.Au (by have:=h.IQ;omega) (fun x hx=>by have:=h.fin x hx;omega)
 have g7:=Rb o.Meta.Aj (by have:=h.Ff;omega) (fun x hx=>by have:=h.man x hx;omega)
 repeat'(first|exact⟨_,rfl⟩|exact g1|exact g2|exact g3|exact g4|exact g5|exact g6|exact g7|exact Bn (by omega)|exact AR (by omega) (by omega)|exact AP (by omega) (by omega)|exact AT (by omega)|with_reducible refine BD (fun _=>?_) (fun _=>?_)|with_reducible refine exb ?_ (fun _ _=>?_)|with_reducible refine Ba ?_|split)
theorem NC{o:Object}(h:OW o):∃r,F103 o=some r:=by
 rw[F103]
 have g1:=Gd h
 have g2:=DS o.Spec h.spec
 have g3:=DS o.Status h.status
 repeat'(first|exact⟨_,rfl⟩|exact g1|exact g2|exact g3|exact Bn (by omega)|exact AR (by omega) (by omega)|exact AP (by omega) (by omega)|exact AT (by omega)|with_reducible refine BD (fun _=>?_) (fun _=>?_)|with_reducible refine exb ?_ (fun _ _=>?_)|with_reducible refine Ba ?_|split)
theorem HP(l:List AI)(h:∀m∈l,m.Ae.length≤4294967290):∀(xs:List AI) (i:Nat),l.drop i=xs→F105_l5 xs i l=some l
 |[],i,_=>by rw[F105_l5]
 |x::xs,i,e=>by
  have hx:=AQ e
  rw[F105_l5,Be hx]
  simp only[Option.bind_some]
  rw[CB (h x (List.mem_of_getElem? hx))]
  simp only[Option.bind_some,Int.toNat_natCast]
  rw[BQ hx]
  exact HP l h xs (i+1) (AZ e)
def parts(o:Object):List Label×List BO×List ByteArray×List AI×Int×Int×ByteArray×List Ab×List Ay×Int×Int×ByteArray×List Ab×List Ay:=
 (o.Meta.Ax,o.Meta.AF,o.Meta.Au,o.Meta.Aj,o.Spec.Kind,o.Spec.N,o.Spec.S,o.Spec.At,o.Spec.Ae,o.Status.Kind,o.Status.N,o.Status.S,o.Status.At,o.Status.Ae)
theorem Dz{o:Object}(h:OW o):F105 o=some (parts o):=by
 rw[F105,CB (by have:=h.labels;omega),Option.bind_some,CB (by have:=h.D3;omega),Option.bind_some,CB (by have:=h.IQ;omega),Option.bind_some,CB (by have:=h.Ff;omega),Option.bind_some,BF (by have:=h.Ff;omega),Option.bind_some,HP _ (fun m hm=>by have:=h.man m hm;omega) _ 0 (List.drop_zero ..),Option.bind_some,HQ _ h.spec,Option.bind_some,HQ _ h.status]
 rfl
theorem EM:∀(l:List Object) (i:Nat) (a:List Object),(∀o∈l,OW o)→a.length+l.length≤4294967290→F115_l1 l i a=some (a++l)
 |[],i,a,_,_=>by rw[F115_l1,List.append_nil]
 |o::l,i,a,h,hl=>by
  rw[F115_l1,Dz (h o (List.mem_cons_self ..))]
  simp only[Option.bind_some,parts,Cr]
  rw[Dt (by simp at hl⊢;omega)]
  simp only[Option.bind_some]
  rw[EM l _ _ (fun y hy=>h y (List.mem_cons_of_mem _ hy)) (by simp at hl⊢;omega)]
  simp
theorem D5{l:List Object}(h:∀o∈l,OW o)(hl:l.length≤4000000):F115 l=some l:=by
 rw[F115,BF (by omega),Option.bind_some,EM l 0 [] h (by simp;omega)];rfl
theorem Gi(l:List Change)(h:∀c∈l,OW c.Object):∀(xs:List Change) (i:Nat),l.drop i=xs→F104_l4 xs i l=some l
 |[],i,_=>by rw[F104_l4]
 |x::xs,i,e=>by
  have hx:=AQ e
  rw[F104_l4,Be hx]
  simp only[Option.bind_some]
  rw[Dz (h x (List.mem_of_getElem? hx))]
  simp only[Option.bind_some,Int.toNat_natCast,parts,Cr]
  rw[show(⟨x.Rev,x.Kind,(⟨x.Object.Meta,x.Object.Spec,x.Object.Status⟩:Object)⟩:Change)=x from rfl,BQ hx]
  exact Gi l h xs (i+1) (AZ e)
structure SW(s:Ag):Prop where
 base:∀o∈s.Bt,OW o
 XC:∀o∈s.Aa,OW o
 XI:∀c∈s.Ac,OW c.Object
 bl:s.Bt.length≤4000000
 ol:s.Aa.length≤4000000
 hl:s.Ac.length≤4000000
theorem Dq{s:Ag}(h:SW s):F104 s=some (s.Bt,s.Aa,s.Ac):=by
 rw[F104,D5 h.base h.bl,Option.bind_some,D5 h.XC h.ol,Option.bind_some,CB (by have:=h.hl;omega),Option.bind_some,BF (by have:=h.hl;omega),Option.bind_some,Gi _ h.XI _ 0 (List.drop_zero ..)]
 rfl
open Go Go.Fw
set_option maxRecDepth 100000
set_option linter.unusedVariables false
set_option linter.unusedSimpArgs false
theorem Mt(a b:Int):∃n,F186 a b=some n∧(n=0↔a=b):=by
 rw[F186,F202,F202]
 simp only[Option.bind_some,not_true_eq_false,if_false]
 by_cases h1:a<b
 ·rw[if_pos h1];exact⟨_,rfl,by omega⟩
 ·rw[if_neg h1]
  by_cases h2:b<a
  ·rw[if_pos h2];exact⟨_,rfl,by omega⟩
  ·rw[if_neg h2];exact⟨_,rfl,by omega⟩
theorem Mo(a b:ByteArray):∃n,F142 a b=some n∧(n=0↔a=b):=⟨GR a b,rfl,Ey a b⟩
theorem Pq:∀(l:List Int) (i:Nat),(F185_l1 l i=some (.inr ())∧∀x∈l,x=0)∨(∃n,F185_l1 l i=some (.inl n)∧n≠0∧∃x∈l,x≠0)
 |[],i=> .inl ⟨by rw[F185_l1],by simp⟩
 |x::l,i=>by
  rw[F185_l1]
  by_cases h:x=0
  ·rw[if_neg (by simp[h])]
   rcases Pq l (i+1)with⟨h1,h2⟩|⟨n,h1,h2,y,h3,h4⟩
   ·exact .inl ⟨h1,fun z hz=>(List.mem_cons.1 hz).elim (fun e=>e.trans h) (h2 z)⟩
   ·exact .inr ⟨n,h1,h2,y,List.mem_cons_of_mem _ h3,h4⟩
  ·rw[if_pos h];exact .inr ⟨x,rfl,h,x,List.mem_cons_self ..,h⟩
theorem UN(l:List Int)(hl:l.length≤4294967290):∃n,F185 l=some n∧(n=0↔∀x∈l,x=0):=by
 rw[F185,BF (by omega),Option.bind_some]
 rcases Pq l 0 with⟨h1,h2⟩|⟨n,h1,h2,y,h3,h4⟩
 ·rw[h1];exact⟨0,rfl,by simpa using h2⟩
 ·rw[h1];exact⟨n,rfl,fun h=>(h2 h).elim,fun h=>(h4 (h y h3)).elim⟩
theorem Cn{α:Type}{l:List α}{i:Nat}{y:α}(h:l[i]? =some y)(n:Nat):(l.drop i).take (n+1)=y::(l.drop (i+1)).take n:=by
 obtain⟨h1,h2⟩:=List.getElem?_eq_some_iff.1 h
 rw[List.drop_eq_getElem_cons h1,h2,List.take_succ_cons]
theorem HR(rc:Ab→Ab→Option Int)(l x1:List Ab)(h:∀x∈l,∀y,∃n,rc x y=some n∧(n=0↔x=y)):∀(xs:List Ab) (i:Nat),l.drop i=xs→(F187_l1 rc x1 xs i=some (.inr ())∧(x1.drop i).take xs.length=xs)∨(∃n,F187_l1 rc x1 xs i=some (.inl n)∧n≠0∧(x1.drop i).take xs.length≠xs)
 |[],i,_=> .inl ⟨by rw[F187_l1],by simp⟩
 |x::xs,i,e=>by
  rw[F187_l1]
  by_cases hi:(x1.length:Int)≤(i:Int)
  ·rw[if_pos hi]
   refine .inr ⟨1,rfl,by omega,?_⟩
   rw[List.drop_of_length_le (by omega)];simp
  ·rw[if_neg hi]
   have hy:x1[i]? =some x1[i]:=List.getElem?_eq_getElem (by omega)
   rw[Be hy,Option.bind_some]
   obtain⟨n,h1,h2⟩:=h x (List.mem_of_getElem? (AQ e)) x1[i]
   rw[h1,Option.bind_some,List.length_cons,Cn hy]
   by_cases hn:n=0
   ·rw[if_neg (by simp[hn]),←h2.1 hn]
    rcases HR rc l x1 h xs (i+1) (AZ e)with⟨h3,h4⟩|⟨m,h3,h4,h5⟩
    ·exact .inl ⟨h3,by rw[h4]⟩
    ·exact .inr ⟨m,h3,h4,fun hh=>h5 (List.cons.inj hh).2⟩
   ·rw[if_pos hn]
    exact .inr ⟨n,rfl,hn,fun hh=>hn (h2.2 (List.cons.inj hh).1.symm)⟩
theorem Ou(rc:Ab→Ab→Option Int)(l x1:List Ab)(hl:l.length≤4294967290)(h:∀x∈l,∀y,∃n,rc x y=some n∧(n=0↔x=y)):∃n,F187 rc l x1=some n∧(n=0↔l=x1):=by
 rw[F187,BF (by omega),Option.bind_some]
 rcases HR rc l x1 h l 0 (List.drop_zero ..)with⟨h3,h4⟩|⟨m,h3,h4,h5⟩
 ·rw[h3,List.drop_zero]at*
  simp only[Option.bind_some]
  by_cases hx:(l.length:Int)<(x1.length:Int)
  ·rw[if_pos hx];exact⟨_,rfl,fun h=>by omega,fun h=>by rw[h]at hx;omega⟩
  ·rw[if_neg hx];exact⟨_,rfl,fun _=>by rw[List.take_of_length_le (by omega)]at h4;exact h4.symm,fun _=>rfl⟩
 ·rw[h3];exact⟨m,rfl,fun h=>(h4 h).elim,fun h=>(h5 (by rw[List.drop_zero,←h,List.take_length])).elim⟩
theorem Mw(rc:Ab→Ab→Option Int)(x y:Ay)(h:∃n,rc x.V y.V=some n∧(n=0↔x.V=y.V)):∃n,F189 rc x y=some n∧(n=0↔x=y):=by
 rw[F189]
 obtain⟨a,a1,a2⟩:=Mo x.Name y.Name
 obtain⟨b,b1,b2⟩:=h
 obtain⟨c,c1,c2⟩:=UN [a,b] (by simp)
 rw[a1,Option.bind_some,b1,Option.bind_some,c1]
 refine⟨c,rfl,c2.trans ?_⟩
 simp only[List.mem_cons,List.not_mem_nil,or_false,forall_eq_or_imp,forall_eq,a2,b2]
 cases x;cases y;simp
theorem Mu(rc:Ab→Ab→Option Int)(l x1:List Ay)(h:∀x∈l,∀y,∃n,rc x.V y=some n∧(n=0↔x.V=y)):∀(xs:List Ay) (i:Nat),l.drop i=xs→(F188_l1 rc x1 xs i=some (.inr ())∧(x1.drop i).take xs.length=xs)∨(∃n,F188_l1 rc x1 xs i=some (.inl n)∧n≠0∧(x1.drop i).take xs.length≠xs)
 |[],i,_=> .inl ⟨by rw[F188_l1],by simp⟩
 |x::xs,i,e=>by
  rw[F188_l1]
  by_cases hi:(x1.length:Int)≤(i:Int)
  ·rw[if_pos hi]
   refine .inr ⟨1,rfl,by omega,?_⟩
   rw[List.drop_of_length_le (by omega)];simp
  ·rw[if_neg hi]
   have hy:x1[i]? =some x1[i]:=List.getElem?_eq_getElem (by omega)
   rw[Be hy,Option.bind_some]
   obtain⟨n,h1,h2⟩:=Mw rc x x1[i] (h x (List.mem_of_getElem? (AQ e)) _)
   rw[h1,Option.bind_some,List.length_cons,Cn hy]
   by_cases hn:n=0
   ·rw[if_neg (by simp[hn]),←h2.1 hn]
    rcases Mu rc l x1 h xs (i+1) (AZ e)with⟨h3,h4⟩|⟨m,h3,h4,h5⟩
    ·exact .inl ⟨h3,by rw[h4]⟩
    ·exact .inr ⟨m,h3,h4,fun hh=>h5 (List.cons.inj hh).2⟩
   ·rw[if_pos hn]
    exact .inr ⟨n,rfl,hn,fun hh=>hn (h2.2 (List.cons.inj hh).1.symm)⟩
theorem Vp(rc:Ab→Ab→Option Int)(l x1:List Ay)(hl:l.length≤4294967290)(h:∀x∈l,∀y,∃n,rc x.V y=some n∧(n=0↔x.V=y)):∃n,F188 rc l x1=some n∧(n=0↔l=x1):=by
 rw[F188,BF (by omega),Option.bind_some]
 rcases Mu rc l x1 h l 0 (List.drop_zero ..)with⟨h3,h4⟩|⟨m,h3,h4,h5⟩
 ·rw[h3,List.drop_zero]at*
  simp only[Option.bind_some]
  by_cases hx:(l.length:Int)<(x1.length:Int)
  ·rw[if_pos hx];exact⟨_,rfl,fun h=>by omega,fun h=>by rw[h]at hx;omega⟩
  ·rw[if_neg hx];exact⟨_,rfl,fun _=>by rw[List.take_of_length_le (by omega)]at h4;exact h4.symm,fun _=>rfl⟩
 ·rw[h3];exact⟨m,rfl,fun h=>(h4 h).elim,fun h=>(h5 (by rw[List.drop_zero,←h,List.take_length])).elim⟩
theorem IU:∀(k:Nat) (x y:Ab),AK x≤k→AK x≤4294967290→∃n,F148k k x y=some n∧(n=0↔x=y)
 |0,x,y,h,_=>by have:=DH x;omega
 |k+1,x,y,h,h2=>by
  have l1:=E2 x
  have l2:=EH x
  rw[F148k,F148]
  obtain⟨a,a1,a2⟩:=Mt x.Kind y.Kind
  obtain⟨b,b1,b2⟩:=Mt x.N y.N
  obtain⟨c,c1,c2⟩:=Mo x.S y.S
  obtain⟨d,d1,d2⟩:=Ou (F148k k) x.At y.At (by omega) fun z hz y=>IU k z y (by have:=BM hz;omega) (by have:=BM hz;omega)
  obtain⟨e,e1,e2⟩:=Vp (F148k k) x.Ae y.Ae (by omega) fun z hz y=>IU k z.V y (by have:=Bo hz;omega) (by have:=Bo hz;omega)
  obtain⟨f,f1,f2⟩:=UN (lit [a,b,c,d,e]) (by simp[lit])
  rw[a1,Option.bind_some,b1,Option.bind_some,c1,Option.bind_some,d1,Option.bind_some,e1,Option.bind_some,f1]
  refine⟨f,rfl,f2.trans ?_⟩
  simp only[lit,List.mem_cons,List.not_mem_nil,or_false,forall_eq_or_imp,forall_eq,a2,b2,c2,d2,e2]
  cases x;cases y;simp
theorem Mi{x:Ab}(y:Ab)(h:AK x≤4000000):∃b,F108 x y=some b∧(b=true↔x=y):=by
 obtain⟨n,h1,h2⟩:=IU 1099511627776 x y (by omega) (by omega)
 exact⟨decide (n=0),by rw[F108,h1];rfl,by simpa using h2⟩
theorem HD(l x1:List Label)(hl:l.length=x1.length):∀(xs:List Label) (i:Nat),l.drop i=xs→F150_l2 x1 xs i=some (if xs=x1.drop i then .inr ()else .inl false)
 |[],i,e=>by
  have:l.length≤i:=by simpa using e
  rw[F150_l2,List.drop_of_length_le (by omega)];simp
 |x::xs,i,e=>by
  have hi:=(List.getElem?_eq_some_iff.1 (AQ e)).1
  have h1:i<x1.length:=by omega
  rw[F150_l2,BH h1,Option.bind_some,HD l x1 hl xs (i+1) (AZ e),List.drop_eq_getElem_cons h1]
  have:(x.Key=x1[i].Key∧x.Value=x1[i].Value)↔x=x1[i]:=by obtain⟨a,b⟩:=x;rcases x1[i]with⟨c,d⟩;simp
  by_cases hx:x=x1[i]
  ·rw[if_neg (not_not_intro (this.2 hx))];simp only[hx,List.cons.injEq,true_and,false_and,not_true_eq_false,not_false_eq_true,if_true,if_false,Option.map_some,decide_true,decide_false,Bool.not_true,Bool.not_false,Bool.false_eq_true]
  ·rw[if_pos (fun hh=>hx (this.1 hh))];simp only[hx,List.cons.injEq,true_and,false_and,not_true_eq_false,not_false_eq_true,if_true,if_false,Option.map_some,decide_true,decide_false,Bool.not_true,Bool.not_false,Bool.false_eq_true]
theorem Ol{l:List Label}(x1:List Label)(hl:l.length≤4294967290):F150 l x1=some (decide (l=x1)):=by
 rw[F150]
 by_cases h:(l.length:Int)=(x1.length:Int)
 ·rw[if_neg (by simpa using h),BF (by omega),Option.bind_some,HD l x1 (by omega) l 0 (List.drop_zero ..),List.drop_zero]
  by_cases hx:l=x1<;>simp[hx]
 ·rw[if_pos h]
  have:l≠x1:=fun e=>h (by rw[e])
  simp[this]
theorem HA(l x1:List BO)(hl:l.length=x1.length):∀(xs:List BO) (i:Nat),l.drop i=xs→F151_l2 x1 xs i=some (if xs=x1.drop i then .inr ()else .inl false)
 |[],i,e=>by
  have:l.length≤i:=by simpa using e
  rw[F151_l2,List.drop_of_length_le (by omega)];simp
 |x::xs,i,e=>by
  have hi:=(List.getElem?_eq_some_iff.1 (AQ e)).1
  have h1:i<x1.length:=by omega
  rw[F151_l2,BH h1,Option.bind_some,HA l x1 hl xs (i+1) (AZ e),List.drop_eq_getElem_cons h1]
  have:(decide (x.Kind=x1[i].Kind)&&(decide (x.Name=x1[i].Name)&&(decide (x.Uid=x1[i].Uid)&&((x.BL==x1[i].BL)&&(x.Block==x1[i].Block)))))=decide (x=x1[i]):=by
   obtain⟨a,b,c,d,e⟩:=x;rcases x1[i]with⟨a',b',c',d',e'⟩
   rw[Bool.eq_iff_iff];simp
  rw[this,Bf]
  by_cases hx:x=x1[i]<;>simp only[hx,List.cons.injEq,true_and,false_and,not_true_eq_false,not_false_eq_true,if_true,if_false,Option.map_some,decide_true,decide_false,Bool.not_true,Bool.not_false,Bool.false_eq_true]
theorem Oj{l:List BO}(x1:List BO)(hl:l.length≤4294967290):F151 l x1=some (decide (l=x1)):=by
 rw[F151]
 by_cases h:(l.length:Int)=(x1.length:Int)
 ·rw[if_neg (by simpa using h),BF (by omega),Option.bind_some,HA l x1 (by omega) l 0 (List.drop_zero ..),List.drop_zero]
  by_cases hx:l=x1<;>simp[hx]
 ·rw[if_pos h]
  have:l≠x1:=fun e=>h (by rw[e])
  simp[this]
theorem Hz(l x1:List ByteArray)(hl:l.length=x1.length):∀(xs:List ByteArray) (i:Nat),l.drop i=xs→F152_l2 x1 xs i=some (if xs=x1.drop i then .inr ()else .inl false)
 |[],i,e=>by
  have:l.length≤i:=by simpa using e
  rw[F152_l2,List.drop_of_length_le (by omega)];simp
 |x::xs,i,e=>by
  have hi:=(List.getElem?_eq_some_iff.1 (AQ e)).1
  have h1:i<x1.length:=by omega
  rw[F152_l2,BH h1,Option.bind_some,Hz l x1 hl xs (i+1) (AZ e),List.drop_eq_getElem_cons h1]
  by_cases hx:x=x1[i]<;>simp only[hx,List.cons.injEq,true_and,false_and,not_true_eq_false,not_false_eq_true,if_true,if_false,Option.map_some,decide_true,decide_false,Bool.not_true,Bool.not_false,Bool.false_eq_true]
theorem JM{l:List ByteArray}(x1:List ByteArray)(hl:l.length≤4294967290):F152 l x1=some (decide (l=x1)):=by
 rw[F152]
 by_cases h:(l.length:Int)=(x1.length:Int)
 ·rw[if_neg (by simpa using h),BF (by omega),Option.bind_some,Hz l x1 (by omega) l 0 (List.drop_zero ..),List.drop_zero]
  by_cases hx:l=x1<;>simp[hx]
 ·rw[if_pos h]
  have:l≠x1:=fun e=>h (by rw[e])
  simp[this]
theorem Mj{x:AI}(y:AI)(h:x.Ae.length≤4294967290):F153 x y=some (decide (x=y)):=by
 rw[F153,JM _ h]
 obtain⟨a,b⟩:=x;obtain⟨c,d⟩:=y
 by_cases hx:a=c<;>simp[hx]
theorem HB(l x1:List AI)(hl:l.length=x1.length)(hm:∀m∈l,m.Ae.length≤4294967290):∀(xs:List AI) (i:Nat),l.drop i=xs→F154_l2 x1 xs i=some (if xs=x1.drop i then .inr ()else .inl false)
 |[],i,e=>by
  have:l.length≤i:=by simpa using e
  rw[F154_l2,List.drop_of_length_le (by omega)];simp
 |x::xs,i,e=>by
  have hi:=(List.getElem?_eq_some_iff.1 (AQ e)).1
  have h1:i<x1.length:=by omega
  rw[F154_l2,BH h1,Option.bind_some,Mj _ (hm x (List.mem_of_getElem? (AQ e))),Option.bind_some,HB l x1 hl hm xs (i+1) (AZ e),List.drop_eq_getElem_cons h1,Bf]
  by_cases hx:x=x1[i]<;>simp only[hx,List.cons.injEq,true_and,false_and,not_true_eq_false,not_false_eq_true,if_true,if_false,Option.map_some,decide_true,decide_false,Bool.not_true,Bool.not_false,Bool.false_eq_true]
theorem Ok{l:List AI}(x1:List AI)(hl:l.length≤4294967290)(hm:∀m∈l,m.Ae.length≤4294967290):F154 l x1=some (decide (l=x1)):=by
 rw[F154]
 by_cases h:(l.length:Int)=(x1.length:Int)
 ·rw[if_neg (by simpa using h),BF (by omega),Option.bind_some,HB l x1 (by omega) hm l 0 (List.drop_zero ..),List.drop_zero]
  by_cases hx:l=x1<;>simp[hx]
 ·rw[if_pos h]
  have:l≠x1:=fun e=>h (by rw[e])
  simp[this]
theorem Vf{x:Object}(y:Object)(h:OW x):∃b,F109 x y=some b∧(b=true↔x=y):=by
 have b0:∀b:Bool,∃r,some b=some r∧(r=true↔b=true):=fun b=>⟨b,rfl,Iff.rfl⟩
 obtain⟨p,p1,p2⟩:=Mi y.Spec h.spec
 obtain⟨q,q1,q2⟩:=Mi y.Status h.status
 rw[F109,F149,F149]
 simp only[Option.bind_some]
 rw[Ol _ (by have:=h.labels;omega),Oj _ (by have:=h.D3;omega),JM _ (by have:=h.IQ;omega),Ok _ (by have:=h.Ff;omega) (fun m hm=>by have:=h.man m hm;omega),p1,q1]
 obtain⟨⟨k,ns,nm,u,v,g,c,dl,da,lb,ow,fi,mn⟩,sp,st⟩:=x
 obtain⟨⟨k',ns',nm',u',v',g',c',dl',da',lb',ow',fi',mn'⟩,sp',st'⟩:=y
 simp only[Object.mk.injEq,Meta.mk.injEq]at*
 by_cases h1:k=k'∧ns=ns'∧nm=nm'
 rotate_left
 ·rw[if_pos h1];exact⟨false,rfl,by simp;intro a b c;exact(h1 ⟨a,b,c⟩).elim⟩
 rw[if_neg (not_not_intro h1)]
 by_cases h2:u=u'
 rotate_left
 ·rw[if_pos h2];exact⟨false,rfl,by simp[h2]⟩
 rw[if_neg (not_not_intro h2)]
 by_cases h3:v=v'
 rotate_left
 ·rw[if_pos h3];exact⟨false,rfl,by simp[h3]⟩
 rw[if_neg (not_not_intro h3)]
 by_cases h4:g=g'
 rotate_left
 ·rw[if_pos h4];exact⟨false,rfl,by simp[h4]⟩
 rw[if_neg (not_not_intro h4)]
 by_cases h5:c=c'
 rotate_left
 ·rw[if_pos h5];exact⟨false,rfl,by simp[h5]⟩
 rw[if_neg (not_not_intro h5)]
 by_cases h6:dl=dl'
 rotate_left
 ·rw[if_pos (by cases dl<;>cases dl'<;>simp_all)];exact⟨false,rfl,by simp[h6]⟩
 rw[if_neg (by rw[h6];simp)]
 by_cases h7:da=da'
 rotate_left
 ·simp only[h7,not_false_eq_true,decide_true,Option.bind_some,if_true];exact⟨false,rfl,by simp⟩
 simp only[h7,not_true_eq_false,decide_false,Option.bind_some,Bool.false_eq_true,if_false,Bf]
 by_cases h8:lb=lb'
 rotate_left
 ·simp only[h8,decide_false,Bool.not_false,if_true,Option.bind_some];exact⟨false,rfl,by simp⟩
 simp only[h8,decide_true,Bool.not_true,Bool.false_eq_true,if_false,Option.bind_some]
 by_cases h9:ow=ow'
 rotate_left
 ·simp only[h9,decide_false,Bool.not_false,if_true,Option.bind_some];exact⟨false,rfl,by simp⟩
 simp only[h9,decide_true,Bool.not_true,Bool.false_eq_true,if_false,Option.bind_some]
 by_cases h10:fi=fi'
 rotate_left
 ·simp only[h10,decide_false,Bool.not_false,if_true,Option.bind_some];exact⟨false,rfl,by simp⟩
 simp only[h10,decide_true,Bool.not_true,Bool.false_eq_true,if_false,Option.bind_some]
 by_cases h11:mn=mn'
 rotate_left
 ·simp only[h11,decide_false,Bool.false_eq_true,if_false,Option.bind_some];exact⟨false,rfl,by simp⟩
 simp only[h11,decide_true,if_true,Option.bind_some]
 cases p
 ·exact⟨false,rfl,by simp[←p2]⟩
 ·simp only[if_true,Option.bind_some]
  exact⟨q,rfl,by simp[h1,h2,h3,h4,h5,h6,←p2,q2]⟩
open Go Go.Fw
set_option maxRecDepth 100000
set_option linter.unusedVariables false
set_option linter.unusedSimpArgs false
def ZO:Object:=⟨⟨⟨#[]⟩,⟨#[]⟩,⟨#[]⟩,0,0,0,0,false,0,[],[],[],[]⟩,⟨0,0,⟨#[]⟩,[],[]⟩,⟨0,0,⟨#[]⟩,[],[]⟩⟩
def cO(k:ByteArray)(y:Object):Int:=GR (AA y) k
def Sorted(l:List Object):Prop:=l.Pairwise fun a b=>lt (AA a) (AA b)
theorem JW{l:List Object}(h:Sorted l)(k:ByteArray):S (cO k) l:=
 h.imp fun{a b} hab hc=>by
   rcases(NK (AA b) k).1 hc with h1|rfl
   ·exact(Ed (AA a) k).2 (lt_trans hab h1)
   ·exact(Ed (AA a) (AA b)).2 hab
theorem Cc{k:ByteArray}{y:Object}:cO k y=0↔AA y=k:=Ey _ _
theorem IW{k:ByteArray}{y:Object}:cO k y<0↔lt (AA y) k:=Ed _ _
def rm(k:ByteArray)(l:List Object):List Object:=l.filter fun y=>decide (cO k y≠0)
def Bw(l:List Object)(c:Change):List Object:=if c.Kind=2 then rm (AA c.Object) l else DB (cO (AA c.Object)) c.Object (rm (AA c.Object) l)
def Bi(l:List Object)(k:ByteArray):Option Object:=l.find? fun y=>decide (cO k y=0)
theorem FW{l:List Object}(k:ByteArray)(h:Sorted l):Sorted (rm k l):=h.filter _
theorem DZ{l:List Object}{k:ByteArray}{y:Object}:y∈rm k l↔y∈l∧AA y≠k:=by
 unfold rm;rw[List.mem_filter];simp[Cc]
theorem QT(k:ByteArray)(l:List Object):(rm k l).length≤l.length:=List.length_filter_le ..
theorem Eg{l:List Object}{c:Change}{y:Object}(h:y∈Bw l c):y∈l∨y=c.Object:=by
 unfold Bw at h
 split at h
 ·exact .inl (DZ.1 h).1
 ·rcases(Ek _ _ _ _).1 h with h|h
  ·exact .inr h
  ·exact .inl (DZ.1 h).1
theorem ET(l:List Object)(c:Change):(Bw l c).length≤l.length+1:=by
 have:=QT (AA c.Object) l
 unfold Bw
 split
 ·omega
 ·rw[L9];omega
theorem CA{l:List Object}(c:Change)(h:Sorted l):Sorted (Bw l c):=by
 unfold Bw
 split
 ·exact FW _ h
 ·refine JD (R:=fun a b=>lt (AA a) (AA b)) (fun a b d=>lt_trans) (fun y hy hc=>IW.1 hc) (fun y hy hc=>?_) (FW _ h)
  exact D7 (mt IW.2 hc) (DZ.1 hy).2
theorem LW{n:Int}{b:Bool}(h:(decide (n=0)||b)=true)(hn:n<0):b=true:=by
 simp at h;rcases h with h|h
 ·omega
 ·exact h
theorem Ja{c:Object→Int}{x:Object}:∀{l:List Object},S c l→CO c l=true→l.set (plc c l) x=DB c x (l.filter fun y=>decide (c y≠0))
 |[],_,h=>by simp[CO]at h
 |y::l,hs,h=>by
  have hs2:=List.pairwise_cons.1 hs
  rw[DT]at h
  unfold plc
  by_cases hc:c y<0
  ·rw[if_pos hc,List.filter_cons_of_pos (by simp;omega),List.set_cons_succ,Ja hs2.2 (LW h hc)]
   rw[DB,if_pos hc]
  ·rw[if_neg hc,List.set_cons_zero]
   have hg:∀z∈l,0<c z:=fun z hz=>by have:=hs2.1 z hz;omega
   rw[EW hg]at h
   simp at h
   rw[List.filter_cons_of_neg (by simp[h]),List.filter_eq_self.2 fun z hz=>by have:=hg z hz;simp;omega]
   cases l with
   |nil=>rfl
   |cons z l=>have:=hg z (List.mem_cons_self ..);rw[DB,if_neg (by omega)]
theorem El{l:List Object}{k:ByteArray}:CO (cO k) l=(Bi l k).isSome:=by
 unfold CO Bi
 rw[Bool.eq_iff_iff,List.any_eq_true,List.find?_isSome]
theorem GA{l:List Object}{k:ByteArray}(hs:S (cO k) l)(h:CO (cO k) l=true):l[plc (cO k) l]? =Bi l k:=by
 induction l with
 |nil=>simp[CO]at h
 |cons y l ih=>
  have hs2:=List.pairwise_cons.1 hs
  rw[DT]at h
  unfold plc Bi
  by_cases hc:cO k y<0
  ·rw[if_pos hc,List.getElem?_cons_succ,List.find?_cons_of_neg (by simp;omega)]
   exact ih hs2.2 (LW h hc)
  ·rw[if_neg hc]
   have hg:∀z∈l,0<cO k z:=fun z hz=>by have:=hs2.1 z hz;omega
   rw[EW hg]at h
   simp at h
   rw[List.find?_cons_of_pos (by simp[h])];rfl
theorem get_mem{l:List Object}{k:ByteArray}{o:Object}(h:Bi l k=some o):o∈l∧AA o=k:=
 ⟨List.mem_of_find?_eq_some h,by have:=List.find?_some h;exact Cc.1 (by simpa using this)⟩
theorem JK{y:Object}(h:OW y)(k:ByteArray):F141 y k=some (cO k y):=by
 rw[F141,DU h.key];rfl
theorem Vu(l:List Object)(k:ByteArray)(h:∀o∈l,OW o):∀(n:Nat) (a b:Int),F140_l1 l k n a b=bsL (cO k) l n a b
 |0,a,b=>by rw[F140_l1,bsL]
 |n+1,a,b=>by
  rw[F140_l1,bsL]
  simp only[Vu l k h n]
  show(if a<b then(rdI l (mid a b)).bind (fun y3=>(F141 y3 k).bind fun t4=>if t4<0 then bsL (cO k) l n (IntKind.i64.wrap (mid a b+1)) b else bsL (cO k) l n a (mid a b))else some a)=_
  by_cases hab:a<b
  ·rw[if_pos hab,if_pos hab]
   cases hr:rdI l (mid a b)with
   |none=>rfl
   |some y=>
    have hy:=List.mem_of_getElem? (Bk hr).2.1
    simp only[Option.bind_some,JK (h y hy) k]
  ·rw[if_neg hab,if_neg hab]
theorem GC{l:List Object}(k:ByteArray)(hs:Sorted l)(h:∀o∈l,OW o)(hl:l.length≤1000000):F102 l k=some ((plc (cO k) l:Int),CO (cO k) l):=by
 rw[F102,F140,Vu l k h]
 have hp:=Gs (cO k) l
 have:=Fk (JW hs k) hl 1099511627776 0 l.length (by omega) (by omega) hp (by omega)
 rw[show((0:Nat):Int)=0 from rfl]at this
 rw[this,Option.bind_some]
 have ft:=Rl (JW hs k)
 have e:(if(plc (cO k) l:Int)<(l.length:Int)then(rdI l (plc (cO k) l:Int)).bind fun y8=>(F141 y8 k).bind fun t9=>some (decide (t9=0))else some false)=(if(plc (cO k) l:Int)<(l.length:Int)then(rdI l (plc (cO k) l:Int)).bind fun y=>some (decide (cO k y=0))else some false):=by
  by_cases hab:(plc (cO k) l:Int)<(l.length:Int)
  ·rw[if_pos hab,if_pos hab]
   cases hr:rdI l (plc (cO k) l:Int)with
   |none=>rfl
   |some y=>
    have hy:=List.mem_of_getElem? (Bk hr).2.1
    simp only[Option.bind_some,JK (h y hy) k]
  ·rw[if_neg hab,if_neg hab]
 rw[e,ft];rfl
theorem Ha{l:List Object}(c:Change)(hs:Sorted l)(h:∀o∈l,OW o)(hc:OW c.Object)(hl:l.length≤1000000):∃b,F147 l c=some (Bw l c,b)∧(b=true↔c.Kind≠2∨CO (cO (AA c.Object)) l=true):=by
 have hp:=Gs (cO (AA c.Object)) l
 have hS:=JW hs (AA c.Object)
 rw[F147,DU hc.key,Option.bind_some]
 show∃b,(F102 l (AA c.Object)).bind _=_∧_
 rw[GC _ hs h hl]
 simp only[Option.bind_some,Bf]
 unfold Bw
 by_cases h2:c.Kind=2
 ·simp only[h2,if_true,Option.bind_some]
  cases hh:CO (cO (AA c.Object)) l with
  |false=>
   simp only[Bool.not_false,if_true]
   refine⟨false,?_,by simp⟩
   unfold rm
   rw[List.filter_eq_self.2]
   intro z hz
   have:=List.any_eq_false.1 hh z hz
   simpa using this
  |true=>
   simp only[Bool.not_true,Bool.false_eq_true,if_false]
   have hlt:plc (cO (AA c.Object)) l<l.length:=by
    have hg:=GA hS hh
    rcases Nat.lt_or_ge (plc (cO (AA c.Object)) l) l.length with h3|h3
    ·exact h3
    ·rw[List.getElem?_eq_none h3]at hg
     have:=El (l:=l) (k:=AA c.Object)
     rw[hh,←hg]at this;simp at this
   rw[show IntKind.i64.wrap ((plc (cO (AA c.Object)) l:Int)+1)=((plc (cO (AA c.Object)) l+1:Nat):Int)from AW (by omega)]
   refine⟨true,?_,by simp⟩
   rw[Tv,if_pos ⟨by omega,by omega,by omega,by omega⟩,Option.bind_some,Int.toNat_natCast,Int.toNat_natCast,O5 hS hh]
   rfl
 ·simp only[h2,if_false,Option.bind_some,Bool.false_eq_true]
  cases hh:CO (cO (AA c.Object)) l with
  |true=>
   have hlt:plc (cO (AA c.Object)) l<l.length:=by
    have hg:=GA hS hh
    rcases Nat.lt_or_ge (plc (cO (AA c.Object)) l) l.length with h3|h3
    ·exact h3
    ·rw[List.getElem?_eq_none h3]at hg
     have:=El (l:=l) (k:=AA c.Object)
     rw[hh,←hg]at this;simp at this
   simp only[if_true,BH hlt,Option.bind_some,Int.toNat_natCast]
   exact⟨true,by rw[Ja hS hh];rfl,by simp⟩
  |false=>
   simp only[Bool.false_eq_true,if_false]
   refine⟨true,?_,by simp[h2]⟩
   rw[Tq,if_pos ⟨by omega,by omega,by omega⟩,Option.bind_some,Int.toNat_natCast,Fg]
   unfold rm
   rw[List.filter_eq_self.2]
   intro z hz
   have:=List.any_eq_false.1 hh z hz
   simpa using this
theorem EC(P:Object→Prop):∀{cs:List Change} {l:List Object},(∀o∈l,P o)→(∀c∈cs,P c.Object)→∀o∈cs.foldl Bw l,P o
 |[],l,h,_=>h
 |c::cs,l,h,hc=>EC P (cs:=cs) (l:=Bw l c) (fun o ho=>(Eg ho).elim (h o) fun e=>e▸hc c (List.mem_cons_self ..)) (fun d hd=>hc d (List.mem_cons_of_mem _ hd))
theorem DO:∀{cs:List Change} {l:List Object},Sorted l→Sorted (cs.foldl Bw l)
 |[],l,h=>h
 |c::cs,l,h=>DO (cs:=cs) (l:=Bw l c) (CA c h)
theorem Fh:∀(cs:List Change) (l:List Object),(cs.foldl Bw l).length≤l.length+cs.length
 |[],l=>Nat.le_refl _
 |c::cs,l=>by have:=Fh cs (Bw l c);have:=ET l c;simp only[List.foldl_cons,List.length_cons];omega
theorem PW:∀(cs:List Change) (i:Nat) (l:List Object),Sorted l→(∀o∈l,OW o)→(∀c∈cs,OW c.Object)→l.length+cs.length≤1000000→F116_l3 cs i l=some (cs.foldl Bw l)
 |[],i,l,_,_,_,_=>by rw[F116_l3];rfl
 |c::cs,i,l,hs,h,hc,hl=>by
  rw[F116_l3]
  simp only[List.length_cons]at hl
  obtain⟨b,h1,_⟩:=Ha c hs h (hc c (List.mem_cons_self ..)) (by omega)
  rw[h1,Option.bind_some,PW cs (i+1) (Bw l c) (CA c hs) (fun o ho=>(Eg ho).elim (h o) fun e=>e▸hc c (List.mem_cons_self ..)) (fun d hd=>hc d (List.mem_cons_of_mem _ hd)) (by have:=ET l c;omega)]
  rfl
open Go Go.Fw
set_option maxRecDepth 100000
set_option linter.unusedVariables false
set_option linter.unusedSimpArgs false
structure Inv(n:Nat)(s:Ag):Prop where
 ob:∀o∈s.Bt,OW o
 oo:∀o∈s.Aa,OW o
 oh:∀c∈s.Ac,OW c.Object
 sb:Sorted s.Bt
 so:Sorted s.Aa
 lb:(s.Bt.length:Int)≤s.As
 lo:(s.Aa.length:Int)≤s.Rev
 fl:0≤s.As
 fr:s.As≤s.Rev
 rv:s.Rev≤n
 hl:(s.Ac.length:Int)=s.Rev-s.As
 u1:1≤s.Am
 un:s.Am≤n+1
 rp:s.Ac.foldl Bw s.Bt=s.Aa
theorem Inv.mono{n m:Nat}{s:Ag}(h:Inv n s)(hm:n≤m):Inv m s:=
 {h with rv:=by have:=h.rv;omega,un:=by have:=h.un;omega}
theorem Inv.sw{n:Nat}{s:Ag}(h:Inv n s)(hn:n≤3000):SW s:=
 ⟨h.ob,h.oo,h.oh,by have:=h.lb;have:=h.fr;have:=h.rv;omega,by have:=h.lo;have:=h.rv;omega,by have:=h.hl;have:=h.rv;have:=h.fl;omega⟩
def atL(s:Ag)(rev:Int):List Object:=(s.Ac.take (rev-s.As).toNat).foldl Bw s.Bt
theorem Vy{n:Nat}{s:Ag}(h:Inv n s)(hn:n≤3000){rev:Int}(h1:s.As≤rev)(h2:rev≤s.Rev):F116 s rev=some (atL s rev):=by
 have:=h.lb;have:=h.hl;have:=h.rv;have:=h.fl;have:=h.fr
 rw[F116,CB (by omega),Option.bind_some,Du (by omega) (by omega)]
 obtain⟨k,hk⟩:∃k:Nat,rev-s.As=k:=⟨(rev-s.As).toNat,by omega⟩
 have hs:slI s.Ac 0 (k:Int)=some (s.Ac.take k):=by
  have:=MX (xs:=s.Ac) (l:=0) (h:=k) (by omega) (by omega)
  simpa using this
 rw[hk,hs,Option.bind_some,BF ⟨by omega,by rw[List.length_take];omega⟩,Option.bind_some,PW _ 0 s.Bt h.sb h.ob (fun c hc=>h.oh c (List.mem_of_mem_take hc)) (by rw[List.length_take];omega)]
 unfold atL;rw[hk];rfl
theorem HZ{n:Nat}{s:Ag}(h:Inv n s)(rev:Int):Sorted (atL s rev)∧(∀o∈atL s rev,OW o)∧(atL s rev).length≤s.Bt.length+(rev-s.As).toNat:=
 ⟨DO h.sb,EC OW h.ob (fun c hc=>h.oh c (List.mem_of_mem_take hc)),Nat.le_trans (Fh _ _) (by rw[List.length_take];omega)⟩
def CI(s:Ag)(kind:Int)(o:Object):Ag:=
 ⟨s.Rev+1,s.As,s.Am,s.Bt,Bw s.Aa ⟨s.Rev+1,kind,o⟩,s.Ac++[⟨s.Rev+1,kind,o⟩]⟩
theorem Fj{n:Nat}{s:Ag}(h:Inv n s)(hn:n≤3000)(kind:Int){o:Object}(ho:OW o):F106 s kind o=some ((CI s kind o).Rev,(CI s kind o).As,(CI s kind o).Bt,(CI s kind o).Aa,(CI s kind o).Ac):=by
 have h1:=h.lo;have h2:=h.hl;have h3:=h.rv;have h4:=h.fl;have h5:=h.fr
 have e:IntKind.i64.wrap (s.Rev+1)=s.Rev+1:=Du (by omega) (by omega)
 rw[F106,Dq (h.sw hn),Option.bind_some,Dz ho,Option.bind_some,Option.bind_some,e]
 simp only[parts,Cr]
 obtain⟨b,hb,_⟩:=Ha (l:=s.Aa) ⟨s.Rev+1,kind,o⟩ h.so h.oo ho (by omega)
 show(F147 s.Aa ⟨s.Rev+1,kind,o⟩).bind _=_
 rw[hb,Option.bind_some]
 show(apI s.Ac [⟨s.Rev+1,kind,o⟩]).bind _=_
 rw[Dt (by simp;omega),Option.bind_some,if_neg (by simp;omega)]
 rfl
theorem Br{o:Object}(h:OW o)(u v g c:Int)(dl:Bool)(da:Int):OW ⟨⟨o.Meta.Kind,o.Meta.Namespace,o.Meta.Name,u,v,g,c,dl,da,o.Meta.Ax,o.Meta.AF,o.Meta.Au,o.Meta.Aj⟩,o.Spec,o.Status⟩:=
 ⟨h.key,h.labels,h.D3,h.IQ,h.Ff,h.man,h.spec,h.status,h.label,h.owner,h.fin⟩
theorem Er:OW ZO:=oW (by unfold ZO Cy I1;rw[Bu];simp[wN,wS,wL,show(⟨#[]⟩:ByteArray).size=0 from rfl])
theorem D4{n:Nat}{s:Ag}(h:Inv n s)(kind:Int){o:Object}(ho:OW o):Inv (n+1) (CI s kind o) where
 ob:=h.ob
 oo:=fun x hx=>(Eg hx).elim (h.oo x) fun e=>e▸ho
 oh:=fun c hc=>(List.mem_append.1 hc).elim (h.oh c) fun e=>by rw[List.mem_singleton.1 e];exact ho
 sb:=h.sb
 so:=CA _ h.so
 lb:=h.lb
 lo:=by have:=h.lo;have:=ET s.Aa ⟨s.Rev+1,kind,o⟩;show((Bw s.Aa ⟨s.Rev+1,kind,o⟩).length:Int)≤s.Rev+1;omega
 fl:=h.fl
 fr:=by have:=h.fr;show s.As≤s.Rev+1;omega
 rv:=by have:=h.rv;show s.Rev+1≤((n+1:Nat):Int);omega
 hl:=by have:=h.hl;show((s.Ac++[_]).length:Int)=s.Rev+1-s.As;simp;omega
 u1:=h.u1
 un:=by have:=h.un;show s.Am≤((n+1:Nat):Int)+1;omega
 rp:=by show(s.Ac++[_]).foldl Bw s.Bt=_;rw[List.foldl_append,h.rp];rfl
def okO(o:Object):Bool:=(F103 o).getD false
theorem LY{o:Object}(h:OW o):F103 o=some (okO o):=by
 obtain⟨r,hr⟩:=NC h
 unfold okO;rw[hr];rfl
def Q8(s:Ag)(o:Object)(now:Int):Object:=
 ⟨⟨o.Meta.Kind,o.Meta.Namespace,o.Meta.Name,s.Am,s.Rev+1,1,now,false,0,o.Meta.Ax,o.Meta.AF,o.Meta.Au,o.Meta.Aj⟩,o.Spec,o.Status⟩
def XU(s:Ag):Ag:=⟨s.Rev,s.As,s.Am+1,s.Bt,s.Aa,s.Ac⟩
def Dc(s:Ag)(o:Object)(now:Int):Ag×Object×Int:=
 if okO o=false∨now<0∨1000000000000<now then(s,ZO,1)
 else if CO (cO (AA o)) s.Aa=true then(s,ZO,8)
 else(XU (CI s 1 (Q8 s o now)),Q8 s o now,0)
def J7(r:Ag×Object×Int):Int×Int×Int×List Object×List Object×List Change×Object×Int:=
 (r.1.Rev,r.1.As,r.1.Am,r.1.Bt,r.1.Aa,r.1.Ac,r.2.1,r.2.2)
theorem Mp{n:Nat}{s:Ag}(h:Inv n s)(hn:n≤400){o:Object}(ho:OW o)(now:Int):F74 s o now=some (J7 (Dc s o now)):=by
 have h1:=h.lo;have h2:=h.hl;have h3:=h.rv;have h4:=h.fl;have h5:=h.fr;have h6:=h.un;have h7:=h.u1
 have e:IntKind.i64.wrap (s.Rev+1)=s.Rev+1:=Du (by omega) (by omega)
 have e2:IntKind.i64.wrap (s.Am+1)=s.Am+1:=Du (by omega) (by omega)
 rw[F74,DU ho.key,Option.bind_some]
 show(F102 s.Aa (AA o)).bind _=_
 rw[GC _ h.so h.oo (by omega),Option.bind_some,LY ho,Option.bind_some,Bf,Dq (h.sw (by omega)),Dz ho]
 unfold Dc
 by_cases g1:okO o=false∨now<0∨1000000000000<now
 ·rw[if_pos g1]
  have:(if(!okO o)=true then some true else if now<0 then some true else some (decide (1000000000000<now)))=some true:=by
   rcases g1 with g|g|g
   ·simp[g]
   ·by_cases g2:okO o<;>simp[g,g2]
   ·by_cases g2:okO o<;>simp[g,g2]
  rw[this];rfl
 rw[if_neg g1]
 have:(if(!okO o)=true then some true else if now<0 then some true else some (decide (1000000000000<now)))=some false:=by
  simp only[not_or,Bool.not_eq_false]at g1
  rw[if_neg (by simp[g1.1]),if_neg g1.2.1,decide_eq_false g1.2.2]
 rw[this]
 simp only[Option.bind_some,Bool.false_eq_true,if_false]
 by_cases g2:CO (cO (AA o)) s.Aa=true
 ·rw[if_pos g2,if_pos g2];rfl
 rw[if_neg g2,if_neg g2]
 rw[if_neg (by omega),if_neg (by omega)]
 have:decide (1000000000000000≤s.Am)=false:=by simp;omega
 rw[this]
 simp only[Option.bind_some,Bool.false_eq_true,if_false,parts,Cr,e,e2]
 rw[Fj h (by omega) 1 (Br ho _ _ _ _ _ _)]
 rfl
theorem IT{n:Nat}{s:Ag}(h:Inv n s){o:Object}(ho:OW o)(now:Int):Inv (n+1) (Dc s o now).1∧OW (Dc s o now).2.1:=by
 unfold Dc
 split
 ·exact⟨h.mono (by omega),Er⟩
 split
 ·exact⟨h.mono (by omega),Er⟩
 have hc:=D4 h 1 (Br ho s.Am (s.Rev+1) 1 now false 0)
 exact⟨{hc with u1:=by have:=h.u1;show 1≤s.Am+1;omega,un:=by have:=h.un;show s.Am+1≤((n+1:Nat):Int)+1;omega},Br ho _ _ _ _ _ _⟩
def MK(y:Object)(b:Bool):ByteArray×ByteArray×ByteArray×Int×Int×Int×Int×Bool×Int×List Label×List BO×List ByteArray×List AI×Int×Int×ByteArray×List Ab×List Ay×Int×Int×ByteArray×List Ab×List Ay×Bool:=
 (y.Meta.Kind,y.Meta.Namespace,y.Meta.Name,y.Meta.Uid,y.Meta.Version,y.Meta.Ai,y.Meta.Created,y.Meta.Av,y.Meta.Ar,y.Meta.Ax,y.Meta.AF,y.Meta.Au,y.Meta.Aj,y.Spec.Kind,y.Spec.N,y.Spec.S,y.Spec.At,y.Spec.Ae,y.Status.Kind,y.Status.N,y.Status.S,y.Status.At,y.Status.Ae,b)
theorem PC{n:Nat}{s:Ag}(h:Inv n s)(hn:n≤3000)(k:ByteArray):F107 s k=some (MK ((Bi s.Aa k).getD ZO) (Bi s.Aa k).isSome):=by
 have h1:=h.lo;have h3:=h.rv
 rw[F107,GC _ h.so h.oo (by omega),Option.bind_some]
 simp only[El]
 cases hg:Bi s.Aa k with
 |none=>rfl
 |some y=>
  have hp:=GA (JW h.so k) (by rw[El,hg];rfl)
  rw[hg]at hp
  simp only[Option.isSome_some,if_true,Be hp,Option.bind_some]
  rw[Dz (h.oo y (get_mem hg).1)]
  rfl
theorem Ik{k:ByteArray}(l:List Object)(h:∀o∈l,OW o):∀(xs:List Object) (i:Nat),l.drop i=xs→(Bi xs k=none∧F52_l1 k xs i=some (.inr ()))∨∃(y:Object) (j:Nat),Bi xs k=some y∧F52_l1 k xs i=some (.inl (j:Int))∧l[j]? =some y
 |[],i,_=> .inl ⟨rfl,by rw[F52_l1]⟩
 |x::xs,i,e=>by
  have hx:=AQ e
  rw[F52_l1,IF (h x (List.mem_of_getElem? hx)),Option.bind_some]
  by_cases hk:AA x=k
  ·rw[if_pos hk]
   refine .inr ⟨x,i,?_,rfl,hx⟩
   unfold Bi;rw[List.find?_cons_of_pos (by simp[Cc,hk])]
  ·rw[if_neg hk]
   have e1:Bi (x::xs) k=Bi xs k:=by unfold Bi;rw[List.find?_cons_of_neg (by simp[Cc,hk])]
   rw[e1]
   exact Ik l h xs (i+1) (AZ e)
theorem NY{s:Ag}(h:∀o∈s.Aa,OW o)(hl:s.Aa.length≤4000000)(k:ByteArray):F27 s k=some ((Bi s.Aa k).getD ZO,(Bi s.Aa k).isSome):=by
 rw[F27,F52,BF (by omega),Option.bind_some]
 rcases Ik (k:=k) s.Aa h s.Aa 0 (List.drop_zero ..)with⟨h1,h2⟩|⟨y,j,h1,h2,h3⟩
 ·rw[h1,h2];rfl
 ·rw[h1,h2,Option.bind_some]
  simp only[Option.bind_some]
  rw[if_neg (by omega),Be h3];rfl
open Classical in
noncomputable def Dm(s:Ag)(o old:Object):Object:=
 ⟨⟨o.Meta.Kind,o.Meta.Namespace,o.Meta.Name,old.Meta.Uid,old.Meta.Version,(if o.Spec=old.Spec then old.Meta.Ai else IntKind.i64.wrap (old.Meta.Ai+1)),old.Meta.Created,o.Meta.Av,o.Meta.Ar,o.Meta.Ax,o.Meta.AF,o.Meta.Au,o.Meta.Aj⟩,o.Spec,o.Status⟩
def CD(o:Object)(v:Int):Object:=
 ⟨⟨o.Meta.Kind,o.Meta.Namespace,o.Meta.Name,o.Meta.Uid,v,o.Meta.Ai,o.Meta.Created,o.Meta.Av,o.Meta.Ar,o.Meta.Ax,o.Meta.AF,o.Meta.Au,o.Meta.Aj⟩,o.Spec,o.Status⟩
open Classical in
noncomputable def Ca(s:Ag)(o:Object):Ag×Object×Int:=
 if okO o=false then(s,ZO,1)else
 match Bi s.Aa (AA o)with
 |none=>(s,ZO,7)
 |some old=>
  if(o.Meta.Version≠0∧o.Meta.Version≠old.Meta.Version)∨(o.Meta.Uid≠0∧o.Meta.Uid≠old.Meta.Uid)then(s,ZO,9)
  else if Dm s o old=old then(s,old,0)
  else(CI s 1 (CD (Dm s o old) (s.Rev+1)),CD (Dm s o old) (s.Rev+1),0)
def I5(nu:Int)(r:Ag×Object×Int):=(r.1.Rev,r.1.As,r.1.Bt,r.1.Aa,r.1.Ac,r.2.1.Meta.Kind,r.2.1.Meta.Namespace,r.2.1.Meta.Name,r.2.1.Meta.Uid,r.2.1.Meta.Version,r.2.1.Meta.Ai,r.2.1.Meta.Created,r.2.1.Meta.Av,r.2.1.Meta.Ar,r.2.1.Meta.Ax,r.2.1.Meta.AF,r.2.1.Meta.Au,r.2.1.Meta.Aj,r.2.1.Spec.Kind,r.2.1.Spec.N,r.2.1.Spec.S,r.2.1.Spec.At,r.2.1.Spec.Ae,r.2.1.Status.Kind,r.2.1.Status.N,r.2.1.Status.S,r.2.1.Status.At,r.2.1.Status.Ae,r.2.2)
theorem Lm{n:Nat}{s:Ag}(h:Inv n s)(hn:n≤400){o:Object}(ho:OW o):F75 s o=some (I5 0 (Ca s o)):=by
 have h1:=h.lo;have h2:=h.hl;have h3:=h.rv;have h4:=h.fl;have h5:=h.fr
 have e:IntKind.i64.wrap (s.Rev+1)=s.Rev+1:=Du (by omega) (by omega)
 rw[F75,LY ho,Option.bind_some,Bf,Dq (h.sw (by omega)),DU ho.key]
 unfold Ca
 cases g1:okO o with
 |false=>rfl
 |true=>
  simp only[Bool.not_true,Bool.false_eq_true,if_false,Option.bind_some,Bool.true_eq_false]
  rw[PC h (by omega)]
  show _=some (I5 0 (match Bi s.Aa (AA o)with|none=>_|some old=>_))
  rw[show Ej o.Meta=AA o from rfl]
  cases hg:Bi s.Aa (AA o)with
  |none=>rfl
  |some old=>
   have hold:=h.oo old (get_mem hg).1
   simp only[Option.isSome_some,Option.getD_some,Option.bind_some,MK,show nb true=false from rfl,Bool.false_eq_true,if_false,Cr]
   have ec:(if¬o.Meta.Version=0 then(if¬o.Meta.Version=old.Meta.Version then some true else(if¬o.Meta.Uid=0 then some (decide (¬o.Meta.Uid=old.Meta.Uid))else some false))else(if¬o.Meta.Uid=0 then some (decide (¬o.Meta.Uid=old.Meta.Uid))else some false))=some (decide ((o.Meta.Version≠0∧o.Meta.Version≠old.Meta.Version)∨(o.Meta.Uid≠0∧o.Meta.Uid≠old.Meta.Uid))):=by
    by_cases a1:o.Meta.Version=0<;>by_cases a2:o.Meta.Version=old.Meta.Version<;>by_cases a3:o.Meta.Uid=0<;>by_cases a4:o.Meta.Uid=old.Meta.Uid<;>simp[a1,a2,a3,a4]
   rw[ec,Option.bind_some]
   by_cases g2:(o.Meta.Version≠0∧o.Meta.Version≠old.Meta.Version)∨(o.Meta.Uid≠0∧o.Meta.Uid≠old.Meta.Uid)
   ·rw[decide_eq_true g2,if_pos rfl,if_pos g2];rfl
   rw[decide_eq_false g2,if_neg (by simp),if_neg g2,Dz ho]
   simp only[Option.bind_some,parts,Cr]
   obtain⟨b,b1,b2⟩:=Mi old.Spec ho.spec
   rw[b1,Option.bind_some]
   have eg:(if nb b=true then some (IntKind.i64.wrap (old.Meta.Ai+1))else some old.Meta.Ai)=some (Dm s o old).Meta.Ai:=by
    cases b
    ·have:¬o.Spec=old.Spec:=fun hh=>by have:=b2.2 hh;cases this
     simp[Bf,Dm,this]
    ·simp[Bf,Dm,b2.1 rfl]
   rw[eg,Option.bind_some]
   have hu:OW (Dm s o old):=Br ho _ _ _ _ _ _
   obtain⟨c,c1,c2⟩:=Vf old hu
   show(F109 (Dm s o old) old).bind _=_
   rw[c1,Option.bind_some]
   cases c
   ·have:¬Dm s o old=old:=fun hh=>by have:=c2.2 hh;cases this
    rw[if_neg (by simp),if_neg (by omega),if_neg this]
    simp only[Option.bind_some,e]
    have hw:OW (CD (Dm s o old) (s.Rev+1)):=Br hu _ _ _ _ _ _
    show(F106 s 1 (CD (Dm s o old) (s.Rev+1))).bind _=_
    rw[Fj h (by omega) 1 hw]
    rfl
   ·rw[if_pos rfl,if_pos (c2.1 rfl)];rfl
theorem IB{n:Nat}{s:Ag}(h:Inv n s){o:Object}(ho:OW o):Inv (n+1) (Ca s o).1∧OW (Ca s o).2.1:=by
 unfold Ca
 split
 ·exact⟨h.mono (by omega),Er⟩
 split
 ·exact⟨h.mono (by omega),Er⟩
 ·rename_i old hg
  split
  ·exact⟨h.mono (by omega),Er⟩
  split
  ·exact⟨h.mono (by omega),h.oo old (get_mem hg).1⟩
  have hu:OW (Dm s o old):=Br ho _ _ _ _ _ _
  have hw:OW (CD (Dm s o old) (s.Rev+1)):=Br hu _ _ _ _ _ _
  exact⟨D4 h 1 hw,hw⟩
def Cv(s:Ag)(k:ByteArray)(v:Int):Ag×Object×Int:=
 match Bi s.Aa k with
 |none=>(s,ZO,7)
 |some old=>
  if v≠0∧v≠old.Meta.Version then(s,ZO,9)
  else(CI s 2 (CD old (s.Rev+1)),CD old (s.Rev+1),0)
def TK(r:Ag×Object×Int):=(r.1.Rev,r.1.As,r.1.Bt,r.1.Aa,r.1.Ac,r.2.1,r.2.2)
theorem Ml{n:Nat}{s:Ag}(h:Inv n s)(hn:n≤400)(k:ByteArray)(v:Int):F76 s k v=some (TK (Cv s k v)):=by
 have h1:=h.lo;have h2:=h.hl;have h3:=h.rv;have h4:=h.fl;have h5:=h.fr
 have e:IntKind.i64.wrap (s.Rev+1)=s.Rev+1:=Du (by omega) (by omega)
 rw[F76,PC h (by omega),Dq (h.sw (by omega))]
 unfold Cv
 cases hg:Bi s.Aa k with
 |none=>rfl
 |some old=>
  have hold:=h.oo old (get_mem hg).1
  simp only[Option.isSome_some,Option.getD_some,Option.bind_some,MK,Bf,Bool.not_true,Bool.false_eq_true,if_false,Cr]
  have ec:(if¬v=0 then some (decide (¬v=old.Meta.Version))else some false)=some (decide (v≠0∧v≠old.Meta.Version)):=by
   by_cases a1:v=0<;>by_cases a2:v=old.Meta.Version<;>simp[a1,a2]
  rw[ec,Option.bind_some]
  by_cases g2:v≠0∧v≠old.Meta.Version
  ·rw[decide_eq_true g2,if_pos rfl,if_pos g2];rfl
  rw[decide_eq_false g2,if_neg (by simp),if_neg g2,if_neg (by omega)]
  simp only[e]
  have hw:OW (CD old (s.Rev+1)):=Br hold _ _ _ _ _ _
  show(F106 s 2 (CD old (s.Rev+1))).bind _=_
  rw[Fj h (by omega) 2 hw]
  rfl
theorem IS{n:Nat}{s:Ag}(h:Inv n s)(k:ByteArray)(v:Int):Inv (n+1) (Cv s k v).1∧OW (Cv s k v).2.1:=by
 unfold Cv
 split
 ·exact⟨h.mono (by omega),Er⟩
 ·rename_i old hg
  split
  ·exact⟨h.mono (by omega),Er⟩
  have hw:OW (CD old (s.Rev+1)):=Br (h.oo old (get_mem hg).1) _ _ _ _ _ _
  exact⟨D4 h 2 hw,hw⟩
def EL(s:Ag)(rev:Int):Ag:=⟨s.Rev,rev,s.Am,atL s rev,s.Aa,s.Ac.drop (rev-s.As).toNat⟩
def BU(s:Ag)(rev:Int):Ag×Int:=if rev<s.As∨s.Rev<rev then(s,5)else(EL s rev,0)
def TL(r:Ag×Int):=(r.1.As,r.1.Bt,r.1.Aa,r.1.Ac,r.2)
theorem HO{n:Nat}{s:Ag}(h:Inv n s){rev:Int}(h1:s.As≤rev)(h2:rev≤s.Rev):Inv n (EL s rev):=by
 have k1:=h.lo;have k2:=h.hl;have k3:=h.rv;have k4:=h.fl;have k5:=h.fr;have k6:=h.lb
 obtain⟨a1,a2,a3⟩:=HZ h rev
 exact{ob:=a2,oo:=h.oo,oh:=fun c hc=>h.oh c (List.mem_of_mem_drop hc),sb:=a1,so:=h.so,lb:=by show((atL s rev).length:Int)≤rev;omega,lo:=k1,fl:=by show 0≤rev;omega,fr:=h2,rv:=k3,hl:=by show((s.Ac.drop _).length:Int)=s.Rev-rev;rw[List.length_drop];omega,u1:=h.u1,un:=h.un,rp:=by show(s.Ac.drop _).foldl Bw ((s.Ac.take _).foldl Bw s.Bt)=s.Aa;rw[←List.foldl_append,List.take_append_drop];exact h.rp}
theorem Kx{n:Nat}{s:Ag}(h:Inv n s)(hn:n≤400)(rev:Int):F77 s rev=some (TL (BU s rev)):=by
 have k1:=h.lo;have k2:=h.hl;have k3:=h.rv;have k4:=h.fl;have k5:=h.fr;have k6:=h.lb
 rw[F77,Dq (h.sw (by omega))]
 unfold BU
 by_cases g:rev<s.As∨s.Rev<rev
 ·rw[if_pos g]
  have:(if rev<s.As then some true else some (decide (s.Rev<rev)))=some true:=by
   by_cases g1:rev<s.As
   ·rw[if_pos g1]
   ·rw[if_neg g1,decide_eq_true (g.resolve_left g1)]
  rw[this];rfl
 ·rw[if_neg g]
  have:(if rev<s.As then some true else some (decide (s.Rev<rev)))=some false:=by
   rw[if_neg (fun hh=>g (.inl hh)),decide_eq_false (fun hh=>g (.inr hh))]
  rw[this]
  simp only[Option.bind_some,Bool.false_eq_true,if_false]
  rw[F110,Vy h (by omega) (by omega) (by omega),Option.bind_some,Du (by omega) (by omega)]
  obtain⟨k,hk⟩:∃k:Nat,rev-s.As=k:=⟨(rev-s.As).toNat,by omega⟩
  have hs:slI s.Ac (k:Int) (s.Ac.length:Int)=some (s.Ac.drop k):=by
   rw[MX (by omega) (Nat.le_refl _),List.take_of_length_le (by simp)]
  rw[hk,hs,Option.bind_some,Option.bind_some]
  have hc:=HO h (rev:=rev) (by omega) (by omega)
  have e:(⟨s.Rev,rev,s.Am,atL s rev,s.Aa,s.Ac.drop k⟩:Ag)=EL s rev:=by unfold EL;rw[hk];rfl
  rw[show(⟨s.Rev,rev,s.Am,(atL s rev,s.Ac.drop k).1,s.Aa,(atL s rev,s.Ac.drop k).2⟩:Ag)=EL s rev from e,Dq (hc.sw (by omega))]
  rfl
theorem HM{n:Nat}{s:Ag}(h:Inv n s)(rev:Int):Inv n (BU s rev).1:=by
 unfold BU
 split
 ·exact h
 ·exact HO h (by omega) (by omega)
def G0(s:Ag)(op:TOp):Int:=if op.Version<0 then((Bi s.Aa (if op.Kind=2 then Ej op.O.Meta else op.Key)).getD ZO).Meta.Version else op.Version
noncomputable def Ec(s:Ag)(op:TOp):Ag×Object×Int:=
 if op.Kind=1 then Dc s op.O op.Now
 else if op.Kind=2 then Ca s (CD op.O (G0 s op))
 else if op.Kind=3 then Cv s op.Key (G0 s op)
 else((BU s op.Rev).1,ZO,(BU s op.Rev).2)
theorem Q2{n:Nat}{s:Ag}(h:Inv n s)(hn:n≤400){op:TOp}(ho:OW op.O):F73 s op=some (if op.Kind=2 then G0 s op else op.O.Meta.Version,G0 s op):=by
 have k1:=h.lo;have k3:=h.rv
 rw[F73,DA ho.key]
 have e1:(if op.Kind=2 then(some (Ej op.O.Meta)).bind fun t3=>some t3 else some op.Key)=some (if op.Kind=2 then Ej op.O.Meta else op.Key):=by split<;>rfl
 rw[e1,Option.bind_some,NY h.oo (by omega)]
 have e2:(if op.Version<0 then(some ((Bi s.Aa (if op.Kind=2 then Ej op.O.Meta else op.Key)).getD ZO,(Bi s.Aa (if op.Kind=2 then Ej op.O.Meta else op.Key)).isSome)).bind fun t6=>some t6.1.Meta.Version else some op.Version)=some (G0 s op):=by unfold G0;split<;>rfl
 rw[e2,Option.bind_some]
 split<;>rfl
theorem P6(s:Ag)(o:Object):(Ca s o).1.Am=s.Am:=by
 unfold Ca
 split
 ·rfl
 split
 ·rfl
 split
 ·rfl
 split<;>rfl
theorem Rr(s:Ag)(k:ByteArray)(v:Int):(Cv s k v).1.Am=s.Am:=by
 unfold Cv
 split
 ·rfl
 split<;>rfl
theorem Oq(s:Ag)(rev:Int):(BU s rev).1.Am=s.Am∧(BU s rev).1.Rev=s.Rev:=by
 unfold BU
 split<;>exact⟨rfl,rfl⟩
theorem Qw{n:Nat}{s:Ag}(h:Inv n s)(hn:n≤400){op:TOp}(ho:OW op.O):F44 s op=some (J7 (Ec s op)):=by
 rw[F44,Q2 h hn ho,Option.bind_some]
 unfold Ec
 by_cases g1:op.Kind=1
 ·have g2:¬op.Kind=2:=by omega
  simp only[g1,if_true]
  rw[Mp h hn (o:=⟨⟨op.O.Meta.Kind,op.O.Meta.Namespace,op.O.Meta.Name,op.O.Meta.Uid,_,op.O.Meta.Ai,op.O.Meta.Created,op.O.Meta.Av,op.O.Meta.Ar,op.O.Meta.Ax,op.O.Meta.AF,op.O.Meta.Au,op.O.Meta.Aj⟩,op.O.Spec,op.O.Status⟩) (Br ho _ _ _ _ _ _)]
  simp only[Option.bind_some,J7,Cr]
  rfl
 by_cases g2:op.Kind=2
 ·simp only[g2,if_true,if_neg (show¬(2:Int)=1 by omega)]
  have e:F75 s (⟨⟨op.O.Meta.Kind,op.O.Meta.Namespace,op.O.Meta.Name,op.O.Meta.Uid,G0 s op,op.O.Meta.Ai,op.O.Meta.Created,op.O.Meta.Av,op.O.Meta.Ar,op.O.Meta.Ax,op.O.Meta.AF,op.O.Meta.Au,op.O.Meta.Aj⟩,op.O.Spec,op.O.Status⟩:Object)=some (I5 0 (Ca s (CD op.O (G0 s op)))):=Lm h hn (Br ho _ _ _ _ _ _)
  rw[e]
  simp only[Option.bind_some,I5,J7,Cr,P6]
 by_cases g3:op.Kind=3
 ·simp only[if_neg g1,if_neg g2,if_pos g3]
  rw[Ml h hn]
  simp only[Option.bind_some,TK,J7,Cr,Rr]
 ·simp only[if_neg g1,if_neg g2,if_neg g3]
  rw[Kx h hn]
  simp only[Option.bind_some,TL,J7,Oq]
  rfl
theorem E9{n:Nat}{s:Ag}(h:Inv n s){op:TOp}(ho:OW op.O):Inv (n+1) (Ec s op).1∧OW (Ec s op).2.1:=by
 unfold Ec
 split
 ·exact IT h ho _
 split
 ·exact IB h (Br ho _ _ _ _ _ _)
 split
 ·exact IS h _ _
 ·exact⟨(HM h _).mono (by omega),Er⟩
noncomputable def Hd(s:Ag)(l:List TOp):Ag:=l.foldl (fun s op=>(Ec s op).1) s
def S0:Ag:=⟨0,0,1,[],[],[]⟩
theorem Ri:Inv 0 S0 where
 ob:=by intro o h;cases h
 oo:=by intro o h;cases h
 oh:=by intro o h;cases h
 sb:=List.Pairwise.nil
 so:=List.Pairwise.nil
 lb:=by decide
 lo:=by decide
 fl:=by decide
 fr:=by decide
 rv:=by decide
 hl:=by decide
 u1:=by decide
 un:=by decide
 rp:=rfl
theorem Hc:∀{l:List TOp} {n:Nat} {s:Ag},Inv n s→(∀op∈l,OW op.O)→Inv (n+l.length) (Hd s l)
 |[],n,s,h,_=>h
 |op::l,n,s,h,ho=>by
  have:=Hc (l:=l) (E9 h (ho op (List.mem_cons_self ..))).1 fun o hx=>ho o (List.mem_cons_of_mem _ hx)
  exact this.mono (by simp;omega)
open Go Go.Fw
set_option maxRecDepth 100000
set_option linter.unusedVariables false
set_option linter.unusedSimpArgs false
theorem OE:∀(l:List AI) (i:Nat) (n:Int),∃r,F29_l1 l i n=some r
 |[],i,n=>⟨_,by rw[F29_l1]⟩
 |x::l,i,n=>by rw[F29_l1];exact OE l _ _
theorem OF{o:Object}(h:OW o):∃r,F29 o=some r:=by
 rw[F29]
 have g1:=Ef 1099511627776 o.Spec (by have:=h.spec;omega) (by have:=h.spec;omega)
 have g2:=Ef 1099511627776 o.Status (by have:=h.status;omega) (by have:=h.status;omega)
 refine exb (exb (Bn (by have:=h.Ff;omega)) fun _ _=>OE _ _ _) fun _ _=>?_
 repeat'(first|exact⟨_,rfl⟩|exact g1|exact g2|exact Bn (by omega)|exact AR (by omega) (by omega)|exact AP (by omega) (by omega)|exact AT (by omega)|with_reducible refine BD (fun _=>?_) (fun _=>?_)|with_reducible refine exb ?_ (fun _ _=>?_)|with_reducible refine Ba ?_|split)
theorem Hn(l:List TOp)(h:∀op∈l,OW op.O)(hl:l.length≤4000000):∀(m k i:Nat) (n:Int),l.length≤i+m→i≤4000000→m<k→∃r,F19_l1 l k n (i:Int)=some r
 |0,k+1,i,n,h1,_,_=>by rw[F19_l1,if_neg (by omega)];exact⟨_,rfl⟩
 |m+1,k+1,i,n,h1,h2,h3=>by
  rw[F19_l1]
  by_cases hi:(i:Int)<(l.length:Int)
  ·rw[if_pos hi,AW (by omega),BH (by omega),Option.bind_some]
   obtain⟨w,hw⟩:=OF (h l[i] (List.getElem_mem _))
   have ih:=fun n=>Hn l h hl m k (i+1) n (by omega) (by omega) (by omega)
   rw[Option.bind_some,hw,Option.bind_some]
   split
   ·exact ih _
   ·exact⟨_,rfl⟩
  ·rw[if_neg hi];exact⟨_,rfl⟩
theorem N8{l:List TOp}(h:∀op∈l,OW op.O)(hl:l.length≤4000000):∃b,F19 l=some b∧(b=true→l.length≤40):=by
 obtain⟨r,hr⟩:=Hn l h hl l.length 1099511627776 0 0 (by omega) (by omega) (by omega)
 rw[F19]
 rw[show((0:Nat):Int)=0 from rfl]at hr
 rw[hr,Option.bind_some]
 by_cases g:(l.length:Int)≤40
 ·rw[if_pos g];exact⟨_,rfl,fun _=>by omega⟩
 ·rw[if_neg g];exact⟨false,rfl,by simp⟩
theorem Jr:∀(l:List TOp) (i n:Nat) (s:Ag),Inv n s→n+l.length≤400→(∀op∈l,OW op.O)→F20_l2 l i s.Rev s.As s.Am s.Bt s.Aa s.Ac=some (Hd s l)
 |[],i,n,s,_,_,_=>by rw[F20_l2];rfl
 |op::l,i,n,s,h,hn,ho=>by
  rw[F20_l2]
  have h1:=ho op (List.mem_cons_self ..)
  have:=Qw h (by simp at hn;omega) h1
  show(F44 s op).bind _=_
  rw[this,Option.bind_some]
  exact Jr l (i+1) (n+1) (Ec s op).1 (E9 h h1).1 (by simp at hn;omega) fun o hx=>ho o (List.mem_cons_of_mem _ hx)
theorem Q3{l:List TOp}(hl:l.length≤400)(ho:∀op∈l,OW op.O):F20 l=some (Hd S0 l):=by
 rw[F20,F43,BF (by omega)]
 simp only[Option.bind_some]
 have:=Jr l 0 0 S0 Ri (by omega) ho
 show(F20_l2 l 0 S0.Rev S0.As S0.Am S0.Bt S0.Aa S0.Ac).bind _=_
 rw[this];rfl
theorem Jz(k:ByteArray):∀(l:List Label) (i:Nat),∃r,F190_l1 k l i=some r
 |[],i=>⟨_,by rw[F190_l1]⟩
 |x::l,i=>by
  rw[F190_l1]
  have ih:=Jz k l (i+1)
  repeat'(first|exact⟨_,rfl⟩|exact ih|exact Bn (by omega)|exact AR (by omega) (by omega)|exact AP (by omega) (by omega)|exact AT (by omega)|with_reducible refine BD (fun _=>?_) (fun _=>?_)|with_reducible refine exb ?_ (fun _ _=>?_)|with_reducible refine Ba ?_|split)
theorem N9{l:List Label}(k:ByteArray)(hl:l.length≤4000000):∃r,F190 l k=some r:=by
 rw[F190]
 have g:=Jz k l 0
 repeat'(first|exact⟨_,rfl⟩|exact g|exact Bn (by omega)|exact AR (by omega) (by omega)|exact AP (by omega) (by omega)|exact AT (by omega)|with_reducible refine BD (fun _=>?_) (fun _=>?_)|with_reducible refine exb ?_ (fun _ _=>?_)|with_reducible refine Ba ?_|split)
theorem Mb(k:ByteArray):∀(l:List ByteArray) (i:Nat),∃r,F203_l1 k l i=some r
 |[],i=>⟨_,by rw[F203_l1]⟩
 |x::l,i=>by
  rw[F203_l1]
  have ih:=Mb k l (i+1)
  repeat'(first|exact⟨_,rfl⟩|exact ih|exact Bn (by omega)|exact AR (by omega) (by omega)|exact AP (by omega) (by omega)|exact AT (by omega)|with_reducible refine BD (fun _=>?_) (fun _=>?_)|with_reducible refine exb ?_ (fun _ _=>?_)|with_reducible refine Ba ?_|split)
theorem Oo{l:List ByteArray}(k:ByteArray)(hl:l.length≤4000000):∃r,F191 l k=some r:=by
 rw[F191,F203]
 have g:=Mb k l 0
 repeat'(first|exact⟨_,rfl⟩|exact g|exact Bn (by omega)|exact AR (by omega) (by omega)|exact AP (by omega) (by omega)|exact AT (by omega)|with_reducible refine BD (fun _=>?_) (fun _=>?_)|with_reducible refine exb ?_ (fun _ _=>?_)|with_reducible refine Ba ?_|split)
theorem Md{r:Ah}{l:List Label}(h1:r.Aq.length≤4000000)(hl:l.length≤4000000):∃b,F157 r l=some b:=by
 rw[F157]
 have g:=N9 r.Key hl
 have g2:=fun k=>Oo (l:=r.Aq) k h1
 repeat'(first|exact⟨_,rfl⟩|exact g|exact g2 _|exact Bn (by omega)|exact AR (by omega) (by omega)|exact AP (by omega) (by omega)|exact AT (by omega)|with_reducible refine BD (fun _=>?_) (fun _=>?_)|with_reducible refine exb ?_ (fun _ _=>?_)|with_reducible refine Ba ?_|split)
theorem L1{l:List Label}(hl:l.length≤4000000):∀(sel:List Ah) (i:Nat),(∀r∈sel,r.Aq.length≤4000000)→∃b,F117_l1 l sel i=some b
 |[],i,_=>⟨_,by rw[F117_l1]⟩
 |x::sel,i,h=>by
  rw[F117_l1]
  have ih:=L1 hl sel (i+1) fun r hr=>h r (List.mem_cons_of_mem _ hr)
  have g:=Md (h x (List.mem_cons_self ..)) hl
  repeat'(first|exact⟨_,rfl⟩|exact ih|exact g|exact Bn (by omega)|exact AR (by omega) (by omega)|exact AP (by omega) (by omega)|exact AT (by omega)|with_reducible refine BD (fun _=>?_) (fun _=>?_)|with_reducible refine exb ?_ (fun _ _=>?_)|with_reducible refine Ba ?_|split)
def BY(sel:List Ah):Prop:=sel.length≤4000000∧∀r∈sel,r.Aq.length≤4000000
def IN(sel:List Ah)(l:List Label):Bool:=(F117 sel l).getD false
theorem L0{sel:List Ah}{l:List Label}(h:BY sel)(hl:l.length≤4000000):F117 sel l=some (IN sel l):=by
 have:∃b,F117 sel l=some b:=by
  rw[F117]
  have g:=L1 hl sel 0 h.2
  have:=h.1
  repeat'(first|exact⟨_,rfl⟩|exact g|exact Bn (by omega)|exact AR (by omega) (by omega)|exact AP (by omega) (by omega)|exact AT (by omega)|with_reducible refine BD (fun _=>?_) (fun _=>?_)|with_reducible refine exb ?_ (fun _ _=>?_)|with_reducible refine Ba ?_|split)
 obtain⟨b,hb⟩:=this
 unfold IN;rw[hb];rfl
def e0:ByteArray:=⟨#[]⟩
def CJ(f:Filter)(o:Object):Bool:=(decide (f.Kind=e0)||decide (f.Kind=o.Meta.Kind))&&((decide (f.Namespace=e0)||decide (f.Namespace=o.Meta.Namespace))&&IN f.Selector o.Meta.Ax)
theorem IE(f:Filter)(o:Object)(b:Bool):(if f.Kind=(⟨#[]⟩:ByteArray)then(if f.Namespace=(⟨#[]⟩:ByteArray)then(some b).bind fun t26=>some t26 else(if f.Namespace=o.Meta.Namespace then(some b).bind fun t28=>some t28 else some false))else(if f.Kind=o.Meta.Kind then(if f.Namespace=(⟨#[]⟩:ByteArray)then(some b).bind fun t31=>some t31 else(if f.Namespace=o.Meta.Namespace then(some b).bind fun t33=>some t33 else some false))else some false))=some ((decide (f.Kind=e0)||decide (f.Kind=o.Meta.Kind))&&((decide (f.Namespace=e0)||decide (f.Namespace=o.Meta.Namespace))&&b)):=by
 unfold e0
 by_cases a1:f.Kind=(⟨#[]⟩:ByteArray)<;>by_cases a2:f.Kind=o.Meta.Kind<;>by_cases a3:f.Namespace=(⟨#[]⟩:ByteArray)<;>by_cases a4:f.Namespace=o.Meta.Namespace<;>simp only[a1,a2,a3,a4,if_true,if_false,Option.bind_some,decide_true,decide_false,Bool.true_or,Bool.or_true,Bool.false_or,Bool.or_false,Bool.true_and,Bool.false_and,Bool.or_self,ite_self]
theorem T6{f:Filter}{o:Object}(h:BY f.Selector)(ho:OW o):F119 f o=some (CJ f o):=by
 rw[F119,L0 h ho.labels,IE];rfl
theorem Gv{f:Filter}(h:BY f.Selector):∀(l:List Object) (i:Nat) (a:List Object),(∀o∈l,OW o)→a.length+l.length≤4000000→F87_l1 f l i a=some (a++l.filter (CJ f))
 |[],i,a,_,_=>by rw[F87_l1];simp
 |o::l,i,a,ho,hl=>by
  have h1:=ho o (List.mem_cons_self ..)
  simp only[List.length_cons]at hl
  rw[F87_l1,T6 h h1,Option.bind_some,Dz h1]
  cases hs:CJ f o with
  |false=>
   simp only[Bool.false_eq_true,if_false,Option.bind_some]
   rw[Gv h l (i+1) a (fun x hx=>ho x (List.mem_cons_of_mem _ hx)) (by omega),List.filter_cons_of_neg (by simp[hs])]
  |true=>
   simp only[if_true,Option.bind_some,parts,Cr]
   rw[Dt (by simp;omega)]
   simp only[Option.bind_some]
   rw[Gv h l (i+1) _ (fun x hx=>ho x (List.mem_cons_of_mem _ hx)) (by simp;omega),List.filter_cons_of_pos (by simp[hs])]
   simp
theorem Re{n:Nat}{s:Ag}(hi:Inv n s)(hn:n≤400){f:Filter}(h:BY f.Selector):F87 s f=some (s.Aa.filter (CJ f)):=by
 have h1:=hi.lo;have h3:=hi.rv
 rw[F87,BF (by omega),Option.bind_some,Gv h _ 0 [] hi.oo (by simp;omega)];rfl
theorem Fa:∀{l:List Object},Sorted l→∀{x y:Object},x∈l→y∈l→AA x=AA y→x=y
 |[],_,x,y,hx,_,_=>by cases hx
 |a::l,hs,x,y,hx,hy,e=>by
  have hs2:=List.pairwise_cons.1 hs
  rcases List.mem_cons.1 hx with e1|h1<;>rcases List.mem_cons.1 hy with e2|h2
  ·rw[e1,e2]
  ·subst e1;exact(Et (hs2.1 y h2) e).elim
  ·subst e2;exact(Et (hs2.1 x h1) e.symm).elim
  ·exact Fa hs2.2 h1 h2 e
theorem EJ{l:List Object}(hs:Sorted l){x:Object}(hx:x∈l):Bi l (AA x)=some x:=by
 cases hg:Bi l (AA x)with
 |none=>
  have:=List.find?_eq_none.1 hg x hx
  simp[Cc]at this
 |some y=>
  obtain⟨h1,h2⟩:=get_mem hg
  rw[Fa hs h1 hx h2]
theorem Q5{l:List TOp}(h:wL GQ l≤1048576):(∀op∈l,OW op.O)∧l.length≤4000000:=by
 refine⟨fun op ho=>oW ?_,?_⟩
 ·have:=CM (w:=GQ) ho
  unfold GQ at this
  unfold GQ at h
  omega
 ·have:=CV (w:=GQ) (fun a=>by unfold GQ;omega) l
  omega
open Go Go.Fw
set_option maxRecDepth 100000
set_option linter.unusedVariables false
set_option linter.unusedSimpArgs false
theorem IP{a b:ByteArray}(h:lt a b):¬lt b a:=fun h'=>lt_irrefl a (lt_trans h h')
theorem U1(a b:ByteArray):(Op.bytesLess a.toList b.toList||decide (a=b))=decide (¬lt b a):=by
 rw[Mz]
 by_cases h:lt a b
 ·simp[h,IP h]
 ·by_cases h2:a=b
  ·subst h2;simp[lt_irrefl]
  ·simp[h,h2,D7 h h2]
theorem Q9(a b:ByteArray):nb (Op.bytesLess a.toList b.toList||decide (a=b))=decide (lt b a):=by rw[U1,Bf];simp
theorem Gt(a b:Int):∃n,F101 (decide (a<b)) (decide (b<a))=some n∧(n=0↔a=b):=by
 rw[F101]
 by_cases h1:a<b
 ·rw[decide_eq_true h1,if_pos rfl];exact⟨_,rfl,by omega⟩
 ·rw[decide_eq_false h1,if_neg (by simp)]
  by_cases h2:b<a
  ·rw[decide_eq_true h2,if_pos rfl];exact⟨_,rfl,by omega⟩
  ·rw[decide_eq_false h2,if_neg (by simp)];exact⟨_,rfl,by omega⟩
theorem LV(a b:ByteArray):∃n,F101 (Op.bytesLess a.toList b.toList) (nb (Op.bytesLess a.toList b.toList||decide (a=b)))=some n∧(n=0↔a=b):=by
 rw[F101,Q9,Mz]
 by_cases h1:lt a b
 ·rw[decide_eq_true h1,if_pos rfl];exact⟨_,rfl,by simp[Et h1]⟩
 ·rw[decide_eq_false h1,if_neg (by simp)]
  by_cases h2:lt b a
  ·rw[decide_eq_true h2,if_pos rfl];exact⟨_,rfl,by simp[Ne.symm (Et h2)]⟩
  ·rw[decide_eq_false h2,if_neg (by simp)];exact⟨_,rfl,by simp[N5 h1 h2]⟩
theorem JL{α:Type}{l r:List α}{m:Nat}(hm:min l.length r.length=m):l=r↔l.take m=r.take m∧l.length=r.length:=by
 constructor
 ·rintro rfl;exact⟨rfl,rfl⟩
 ·rintro⟨h1,h2⟩
  rwa [List.take_of_length_le (by omega),List.take_of_length_le (by omega)]at h1
theorem Jj(rc:Ab→Ab→Option Int)(x y:Ab)(hb:x.At.length≤4294967290)(h:∀z∈x.At,∀w,∃n,rc z w=some n∧(n=0↔z=w)):∀(m i k:Nat) (a:Int),min x.At.length y.At.length=i+m→m<k→∃n,F72_l8 rc x y k a (i:Int)=some n∧(n=0↔a=0∧(x.At.drop i).take m=(y.At.drop i).take m)
 |0,i,k+1,a,h1,_=>by
  rw[F72_l8]
  have:(if(i:Int)<(x.At.length:Int)then(if(i:Int)<(y.At.length:Int)then some (decide (a=0))else some false)else some false)=some false:=by
   by_cases g:(i:Int)<(x.At.length:Int)
   ·rw[if_pos g,if_neg (by omega)]
   ·rw[if_neg g]
  rw[this]
  exact⟨a,rfl,by simp⟩
 |m+1,i,k+1,a,h1,hk=>by
  rw[F72_l8,if_pos (by omega),if_pos (by omega),Option.bind_some]
  by_cases h0:a=0
  ·rw[decide_eq_true h0,if_pos rfl,BH (by omega),Option.bind_some,BH (by omega),Option.bind_some,AW (by omega)]
   obtain⟨n,h2,h3⟩:=h x.At[i] (List.getElem_mem _) y.At[i]
   rw[h2,Option.bind_some]
   obtain⟨r,h4,h5⟩:=Jj rc x y hb h m (i+1) k n (by omega) (by omega)
   refine⟨r,h4,h5.trans ?_⟩
   rw[h3,Cn (List.getElem?_eq_getElem (by omega)),Cn (List.getElem?_eq_getElem (by omega)),List.cons.injEq]
   simp[h0]
  ·rw[decide_eq_false h0,if_neg (by simp)]
   exact⟨a,rfl,by simp[h0]⟩
theorem Hb(rc:Ab→Ab→Option Int)(x y:Ab)(hb:x.Ae.length≤4294967290)(h:∀z∈x.Ae,∀w,∃n,rc z.V w=some n∧(n=0↔z.V=w)):∀(m i k:Nat) (a:Int),min x.Ae.length y.Ae.length=i+m→m<k→∃n,F72_l19 rc x y k a (i:Int)=some n∧(n=0↔a=0∧(x.Ae.drop i).take m=(y.Ae.drop i).take m)
 |0,i,k+1,a,h1,_=>by
  rw[F72_l19]
  have:(if(i:Int)<(x.Ae.length:Int)then(if(i:Int)<(y.Ae.length:Int)then some (decide (a=0))else some false)else some false)=some false:=by
   by_cases g:(i:Int)<(x.Ae.length:Int)
   ·rw[if_pos g,if_neg (by omega)]
   ·rw[if_neg g]
  rw[this]
  exact⟨a,rfl,by simp⟩
 |m+1,i,k+1,a,h1,hk=>by
  rw[F72_l19,if_pos (by omega),if_pos (by omega),Option.bind_some]
  by_cases h0:a=0
  ·rw[decide_eq_true h0,if_pos rfl,BH (by omega),Option.bind_some,BH (by omega),Option.bind_some,AW (by omega)]
   obtain⟨n,h2,h3⟩:=LV x.Ae[i].Name y.Ae[i].Name
   obtain⟨p,p2,p3⟩:=h x.Ae[i] (List.getElem_mem _) y.Ae[i].V
   rw[h2,Option.bind_some,p2]
   have e:∃q,(if n=0 then(some p).bind fun t29=>some t29 else some n)=some q∧(q=0↔x.Ae[i]=y.Ae[i]):=by
    have hf:x.Ae[i]=y.Ae[i]↔x.Ae[i].Name=y.Ae[i].Name∧x.Ae[i].V=y.Ae[i].V:=by
     rcases x.Ae[i]with⟨a1,a2⟩;rcases y.Ae[i]with⟨b1,b2⟩;simp
    by_cases hn:n=0
    ·rw[if_pos hn];exact⟨p,rfl,by rw[p3,hf];simp[h3.1 hn]⟩
    ·rw[if_neg hn];exact⟨n,rfl,by rw[hf,h3];constructor
                                  ·intro hh;exact(hn (h3.2 hh)).elim
                                  ·intro hh;exact hh.1⟩
   obtain⟨q,e1,e2⟩:=e
   rw[e1,Option.bind_some]
   obtain⟨r,h4,h5⟩:=Hb rc x y hb h m (i+1) k q (by omega) (by omega)
   refine⟨r,h4,h5.trans ?_⟩
   rw[e2,Cn (List.getElem?_eq_getElem (by omega)),Cn (List.getElem?_eq_getElem (by omega)),List.cons.injEq]
   simp[h0]
  ·rw[decide_eq_false h0,if_neg (by simp)]
   exact⟨a,rfl,by simp[h0]⟩
theorem zif{a:Int}{e:Option Int}{P Q:Prop}(ha:a=0↔P)(h:∃n,e=some n∧(n=0↔Q)):∃n,(if a=0 then e.bind fun t=>some t else some a)=some n∧(n=0↔P∧Q):=by
 obtain⟨n,h1,h2⟩:=h
 by_cases h0:a=0
 ·rw[if_pos h0,h1];exact⟨n,rfl,by rw[h2];simp[ha.1 h0]⟩
 ·rw[if_neg h0];exact⟨a,rfl,fun hh=>(h0 hh).elim,fun hh=>ha.2 hh.1⟩
theorem IH:∀(k:Nat) (x y:Ab),AK x≤k→AK x≤4294967290→∃n,F72k k x y=some n∧(n=0↔x=y)
 |0,x,y,h,_=>by have:=DH x;omega
 |k+1,x,y,h,h2=>by
  have l1:=E2 x
  have l2:=EH x
  rw[F72k,F72]
  obtain⟨a,a1,a2⟩:=Gt x.Kind y.Kind
  obtain⟨b,b1,b2⟩:=zif a2 (Gt x.N y.N)
  obtain⟨c,c1,c2⟩:=zif b2 (LV x.S y.S)
  obtain⟨d,d1,d2⟩:=Jj (F72k k) x y (by omega) (fun z hz y=>IH k z y (by have:=BM hz;omega) (by have:=BM hz;omega)) (min x.At.length y.At.length) 0 1099511627776 c (by omega) (by omega)
  obtain⟨e,e1,e2⟩:=zif d2 (Gt (x.At.length:Int) (y.At.length:Int))
  obtain⟨f,f1,f2⟩:=Hb (F72k k) x y (by omega) (fun z hz y=>IH k z.V y (by have:=Bo hz;omega) (by have:=Bo hz;omega)) (min x.Ae.length y.Ae.length) 0 1099511627776 e (by omega) (by omega)
  obtain⟨g,g1,g2⟩:=zif f2 (Gt (x.Ae.length:Int) (y.Ae.length:Int))
  rw[show((0:Nat):Int)=0 from rfl]at d1 f1
  rw[a1,Option.bind_some,b1,Option.bind_some,c1,Option.bind_some,d1,Option.bind_some,e1,Option.bind_some,f1,Option.bind_some,g1]
  refine⟨g,rfl,g2.trans ?_⟩
  rw[e2,c2,List.drop_zero,List.drop_zero,List.drop_zero,List.drop_zero]
  have t1:=JL (l:=x.At) (r:=y.At) rfl
  have t2:=JL (l:=x.Ae) (r:=y.Ae) rfl
  have hx:x=y↔x.Kind=y.Kind∧x.N=y.N∧x.S=y.S∧x.At=y.At∧x.Ae=y.Ae:=by cases x;cases y;simp
  rw[hx,t1,t2]
  constructor
  ·rintro⟨⟨⟨⟨⟨⟨h1,h2⟩,h3⟩,h4⟩,h5⟩,h6⟩,h7⟩
   exact⟨h1,h2,h3,⟨h4,by omega⟩,h6,by omega⟩
  ·rintro⟨h1,h2,h3,⟨h4,h5⟩,h6,h7⟩
   exact⟨⟨⟨⟨⟨⟨h1,h2⟩,h3⟩,h4⟩,by omega⟩,h6⟩,by omega⟩
theorem LG{x:Ab}(y:Ab)(h:AK x≤4000000):∃b,F42 x y=some b∧(b=true↔x=y):=by
 obtain⟨n,h1,h2⟩:=IH 1099511627776 x y (by omega) (by omega)
 exact⟨decide (n=0),by rw[F42,h1];rfl,by simpa using h2⟩
theorem G7(l x1:List ByteArray)(hl:l.length=x1.length):∀(xs:List ByteArray) (i:Nat),l.drop i=xs→F71_l2 x1 xs i=some (if xs=x1.drop i then .inr ()else .inl false)
 |[],i,e=>by
  have:l.length≤i:=by simpa using e
  rw[F71_l2,List.drop_of_length_le (by omega)];simp
 |x::xs,i,e=>by
  have hi:=(List.getElem?_eq_some_iff.1 (AQ e)).1
  have h1:i<x1.length:=by omega
  rw[F71_l2,BH h1,Option.bind_some,G7 l x1 hl xs (i+1) (AZ e),List.drop_eq_getElem_cons h1]
  by_cases hx:x=x1[i]<;>simp only[hx,List.cons.injEq,true_and,false_and,not_true_eq_false,not_false_eq_true,if_true,if_false,Option.map_some,decide_true,decide_false,Bool.not_true,Bool.not_false,Bool.false_eq_true]
theorem Jd{l:List ByteArray}(x1:List ByteArray)(hl:l.length≤4294967290):F71 l x1=some (decide (l=x1)):=by
 rw[F71]
 by_cases h:(l.length:Int)=(x1.length:Int)
 ·rw[if_neg (by simpa using h),BF (by omega),Option.bind_some,G7 l x1 (by omega) l 0 (List.drop_zero ..),List.drop_zero]
  by_cases hx:l=x1<;>simp[hx]
 ·rw[if_pos h]
  have:l≠x1:=fun e=>h (by rw[e])
  simp[this]
theorem FV(m:Meta)(l:List Label)(hl:l.length=m.Ax.length):∀(xs:List Label) (i:Nat),l.drop i=xs→F41_l19 m xs i=some (if xs=m.Ax.drop i then .inr ()else .inl false)
 |[],i,e=>by
  have:l.length≤i:=by simpa using e
  rw[F41_l19,List.drop_of_length_le (by omega)];simp
 |x::xs,i,e=>by
  have hi:=(List.getElem?_eq_some_iff.1 (AQ e)).1
  have h1:i<m.Ax.length:=by omega
  rw[F41_l19,BH h1,Option.bind_some,FV m l hl xs (i+1) (AZ e),List.drop_eq_getElem_cons h1]
  have:(x.Key=m.Ax[i].Key∧x.Value=m.Ax[i].Value)↔x=m.Ax[i]:=by obtain⟨a,b⟩:=x;rcases m.Ax[i]with⟨c,d⟩;simp
  by_cases hx:x=m.Ax[i]
  ·rw[if_neg (not_not_intro (this.2 hx))];simp only[hx,List.cons.injEq,true_and]
  ·rw[if_pos (fun hh=>hx (this.1 hh))];simp only[hx,List.cons.injEq,false_and,if_false,Option.map_some]
theorem FU(m:Meta)(l:List BO)(hl:l.length=m.AF.length):∀(xs:List BO) (i:Nat),l.drop i=xs→F41_l24 m xs i=some (if xs=m.AF.drop i then .inr ()else .inl false)
 |[],i,e=>by
  have:l.length≤i:=by simpa using e
  rw[F41_l24,List.drop_of_length_le (by omega)];simp
 |x::xs,i,e=>by
  have hi:=(List.getElem?_eq_some_iff.1 (AQ e)).1
  have h1:i<m.AF.length:=by omega
  rw[F41_l24,BH h1,Option.bind_some,FU m l hl xs (i+1) (AZ e),List.drop_eq_getElem_cons h1]
  have:(decide (x.Kind=m.AF[i].Kind)&&(decide (x.Name=m.AF[i].Name)&&(decide (x.Uid=m.AF[i].Uid)&&((x.BL==m.AF[i].BL)&&(x.Block==m.AF[i].Block)))))=decide (x=m.AF[i]):=by
   obtain⟨a,b,c,d,e⟩:=x;rcases m.AF[i]with⟨a',b',c',d',e'⟩
   rw[Bool.eq_iff_iff];simp
  rw[this,Bf]
  by_cases hx:x=m.AF[i]<;>simp only[hx,List.cons.injEq,true_and,false_and,not_true_eq_false,not_false_eq_true,if_true,if_false,Option.map_some,decide_true,decide_false,Bool.not_true,Bool.not_false,Bool.false_eq_true]
theorem FT(m:Meta)(l:List AI)(hl:l.length=m.Aj.length)(hm:∀z∈l,z.Ae.length≤4294967290):∀(xs:List AI) (i:Nat),l.drop i=xs→F41_l29 m xs i=some (if xs=m.Aj.drop i then .inr ()else .inl false)
 |[],i,e=>by
  have:l.length≤i:=by simpa using e
  rw[F41_l29,List.drop_of_length_le (by omega)];simp
 |x::xs,i,e=>by
  have hi:=(List.getElem?_eq_some_iff.1 (AQ e)).1
  have h1:i<m.Aj.length:=by omega
  rw[F41_l29,BH h1,Option.bind_some,FT m l hl hm xs (i+1) (AZ e),List.drop_eq_getElem_cons h1,Jd _ (hm x (List.mem_of_getElem? (AQ e)))]
  have hf:x=m.Aj[i]↔x.Name=m.Aj[i].Name∧x.Ae=m.Aj[i].Ae:=by obtain⟨a,b⟩:=x;rcases m.Aj[i]with⟨c,d⟩;simp
  have e2:(if¬x.Name=m.Aj[i].Name then some true else(some (decide (x.Ae=m.Aj[i].Ae))).bind fun t34=>some (nb t34))=some (decide (¬x=m.Aj[i])):=by
   by_cases h2:x.Name=m.Aj[i].Name<;>by_cases h3:x.Ae=m.Aj[i].Ae<;>simp[hf,h2,h3,Bf]
  rw[e2,Option.bind_some]
  by_cases hx:x=m.Aj[i]<;>simp only[hx,List.cons.injEq,true_and,false_and,not_true_eq_false,not_false_eq_true,if_true,if_false,Option.map_some,decide_true,decide_false,Bool.not_true,Bool.not_false,Bool.false_eq_true]
theorem Oz{a b c:ByteArray}(h:a++b=a++c):b=c:=by
 have:=congrArg (fun x:ByteArray=>x.data.toList) h
 simp only[ByteArray.data_append,Array.toList_append]at this
 have e:=List.append_cancel_left this
 obtain⟨⟨b⟩⟩:=b;obtain⟨⟨c⟩⟩:=c
 simp only at e;rw[e]
open Go Go.Fw
set_option maxRecDepth 100000
set_option linter.unusedVariables false
set_option linter.unusedSimpArgs false
theorem CG{α β:Type}{f:α→β}{a b:α}(h:f a≠f b):a≠b:=fun e=>h (by rw[e])
theorem NW{o p:Object}(ho:OW o)(hp:OW p):F41 o.Meta p.Meta=some (decide (o.Meta=p.Meta)):=by
 have b1:=ho.labels;have b2:=ho.D3;have b3:=ho.IQ;have b4:=ho.Ff;have b5:=ho.man
 rw[F41,DA ho.key,DA hp.key]
 simp only[Option.bind_some]
 generalize o.Meta=m at*
 generalize p.Meta=m' at*
 by_cases h0:Ej m=Ej m'
 rotate_left
 ·rw[if_pos h0];simp[CG h0]
 rw[if_neg (not_not_intro h0)]
 by_cases h1:m.Kind=m'.Kind
 rotate_left
 ·rw[if_pos h1];simp[CG h1]
 rw[if_neg (not_not_intro h1)]
 by_cases h2:m.Namespace=m'.Namespace
 rotate_left
 ·rw[if_pos h2];simp[CG h2]
 rw[if_neg (not_not_intro h2)]
 by_cases h3:m.Uid=m'.Uid
 rotate_left
 ·rw[if_pos h3];simp[CG h3]
 rw[if_neg (not_not_intro h3)]
 by_cases h4:m.Version=m'.Version
 rotate_left
 ·rw[if_pos h4];simp[CG h4]
 rw[if_neg (not_not_intro h4)]
 by_cases h5:m.Ai=m'.Ai
 rotate_left
 ·rw[if_pos h5];simp[CG h5]
 rw[if_neg (not_not_intro h5)]
 by_cases h6:m.Created=m'.Created
 rotate_left
 ·rw[if_pos h6];simp[CG h6]
 rw[if_neg (not_not_intro h6)]
 by_cases h7:m.Av=m'.Av
 rotate_left
 ·rw[if_pos (by cases hh:m.Av<;>cases hk:m'.Av<;>simp_all)];simp[CG h7]
 rw[if_neg (by rw[h7];simp)]
 by_cases h8:m.Ar=m'.Ar
 rotate_left
 ·rw[decide_eq_true h8];simp[CG h8]
 rw[decide_eq_false (not_not_intro h8)]
 simp only[Option.bind_some,Bool.false_eq_true,if_false]
 by_cases g1:(m.Ax.length:Int)=(m'.Ax.length:Int)
 rotate_left
 ·rw[if_pos g1];simp[CG (f:=fun m:Meta=>(m.Ax.length:Int)) g1]
 rw[if_neg (not_not_intro g1)]
 by_cases g2:(m.AF.length:Int)=(m'.AF.length:Int)
 rotate_left
 ·rw[if_pos g2];simp[CG (f:=fun m:Meta=>(m.AF.length:Int)) g2]
 rw[if_neg (not_not_intro g2)]
 by_cases g3:(m.Aj.length:Int)=(m'.Aj.length:Int)
 rotate_left
 ·rw[if_pos g3];simp[CG (f:=fun m:Meta=>(m.Aj.length:Int)) g3]
 rw[if_neg (not_not_intro g3),Jd _ (by omega)]
 simp only[Option.bind_some,Bf]
 by_cases g4:m.Au=m'.Au
 rotate_left
 ·simp only[g4,decide_false,Bool.not_false,if_true];simp[CG g4]
 simp only[g4,decide_true,Bool.not_true,Bool.false_eq_true,if_false]
 rw[BF (by omega),BF (by omega),BF (by omega)]
 simp only[Option.bind_some]
 rw[FV m' m.Ax (by omega) m.Ax 0 (List.drop_zero ..),FU m' m.AF (by omega) m.AF 0 (List.drop_zero ..),FT m' m.Aj (by omega) (fun z hz=>by have:=b5 z hz;omega) m.Aj 0 (List.drop_zero ..)]
 simp only[List.drop_zero,Option.bind_some]
 by_cases k1:m.Ax=m'.Ax
 rotate_left
 ·simp only[k1,if_false];simp[CG k1]
 simp only[k1,if_true]
 by_cases k2:m.AF=m'.AF
 rotate_left
 ·simp only[k2,if_false];simp[CG k2]
 simp only[k2,if_true]
 by_cases k3:m.Aj=m'.Aj
 rotate_left
 ·simp only[k3,if_false];simp[CG k3]
 simp only[k3,if_true]
 have h9:m.Name=m'.Name:=by
  unfold Ej at h0
  rw[h1,h2]at h0
  exact Oz h0
 have:m=m':=by
  obtain⟨a1,a2,a3,a4,a5,a6,a7,a8,a9,a10,a11,a12,a13⟩:=m
  obtain⟨c1,c2,c3,c4,c5,c6,c7,c8,c9,c10,c11,c12,c13⟩:=m'
  simp only at*
  simp only[Meta.mk.injEq]
  exact⟨h1,h2,h9,h3,h4,h5,h6,h7,h8,k1,k2,g4,k3⟩
 simp[this]
theorem QW{o p:Object}(ho:OW o)(hp:OW p):∃b,F16 o p=some b∧(b=true↔o=p):=by
 obtain⟨a,a1,a2⟩:=LG p.Spec ho.spec
 obtain⟨c,c1,c2⟩:=LG p.Status ho.status
 rw[F16,NW ho hp,a1,c1]
 have hx:o=p↔o.Meta=p.Meta∧o.Spec=p.Spec∧o.Status=p.Status:=by cases o;cases p;simp
 rw[hx]
 simp only[Option.bind_some]
 by_cases h1:o.Meta=p.Meta
 ·cases a
  ·refine⟨false,by simp[h1],?_⟩
   constructor
   ·intro h;cases h
   ·rintro⟨_,h2,_⟩;exact a2.2 h2
  ·refine⟨c,by simp[h1],?_⟩
   rw[c2];exact⟨fun h=>⟨h1,a2.1 rfl,h⟩,fun h=>h.2.2⟩
 ·exact⟨false,by simp[h1],by simp[h1]⟩
theorem Kg{o:Object}(ho:OW o):F16 o o=some true:=by
 obtain⟨b,h1,h2⟩:=QW ho ho
 rw[h1,h2.2 rfl]
theorem Sb(l:List Object)(h:∀o∈l,OW o)(hl:l.length≤4000000):∀(m i k:Nat),l.length=i+m→m<k→F25_l1 l l k (i:Int)=some (.inr ())
 |0,i,k+1,h1,_=>by
  rw[F25_l1,if_neg (by omega)];rfl
 |m+1,i,k+1,h1,h2=>by
  rw[F25_l1,if_pos (by omega),decide_eq_true (by omega),Option.bind_some,if_pos rfl,BH (by omega),Option.bind_some,Option.bind_some,Kg (h _ (List.getElem_mem _)),AW (by omega)]
  simp only[Option.bind_some,show nb true=false from rfl,Bool.false_eq_true,if_false]
  exact Sb l h hl m (i+1) k (by omega) (by omega)
theorem Ta{l:List Object}(h:∀o∈l,OW o)(hl:l.length≤4000000):F25 l l=some true:=by
 have:=Sb l h hl l.length 0 1099511627776 (by omega) (by omega)
 rw[show((0:Nat):Int)=0 from rfl]at this
 rw[F25,this];simp
open Go Go.Fw
set_option maxRecDepth 100000
set_option linter.unusedVariables false
set_option linter.unusedSimpArgs false
def O4(m:Meta):Option Bool:=(((F174 m.Kind).bind fun t6=>(if t6=true then(F175 m.Namespace).bind fun t8=>(if t8=true then(F176 m.Name).bind fun t10=>(if t10=true then(F177 m.Ax).bind fun t12=>(if t12=true then(F178 m.AF).bind fun t14=>(if t14=true then(F179 m.Au).bind fun t16=>(if t16=true then(F180 m.Aj).bind fun t18=>some t18 else some false)else some false)else some false)else some false)else some false)else some false)).bind fun o5=>some o5)
def num(m:Meta):Prop:=0≤m.Uid∧0≤m.Version∧0≤m.Ai∧0≤m.Created∧0≤m.Ar∧(m.Av=true∨m.Ar=0)
instance(m:Meta):Decidable (num m):=by unfold num;exact inferInstance
theorem mn(a b:Int):(if b<a then b else a)<0↔a<0∨b<0:=by split<;>omega
theorem Kl(m:Meta):F143 m=if num m then O4 m else some false:=by
 rw[F143]
 simp only[mn]
 have e:(if(((m.Uid<0∨m.Version<0)∨m.Ai<0)∨m.Created<0)∨m.Ar<0 then some true else(if(nb m.Av)=true then some (decide (¬(m.Ar=0)))else some false))=some (decide (¬num m)):=by
  unfold num
  rw[Bf]
  by_cases h:(((m.Uid<0∨m.Version<0)∨m.Ai<0)∨m.Created<0)∨m.Ar<0
  ·rw[if_pos h]
   have:¬(0≤m.Uid∧0≤m.Version∧0≤m.Ai∧0≤m.Created∧0≤m.Ar∧(m.Av=true∨m.Ar=0)):=by omega
   rw[decide_eq_true this]
  ·rw[if_neg h]
   have h1:0≤m.Uid∧0≤m.Version∧0≤m.Ai∧0≤m.Created∧0≤m.Ar:=by omega
   by_cases hd:m.Av=true<;>by_cases h2:m.Ar=0<;>simp[h1.1,h1.2.1,h1.2.2.1,h1.2.2.2.1,h1.2.2.2.2,hd,h2]
 rw[e]
 by_cases h:num m
 ·rw[decide_eq_false (not_not_intro h),if_pos h];rfl
 ·rw[decide_eq_true h,if_neg h];rfl
def rest(o:Object):Prop:=O4 o.Meta=some true∧F144 o.Spec=some true∧F144 o.Status=some true
theorem Dv{o:Object}(h:OW o):okO o=true↔num o.Meta∧rest o:=by
 have h0:=LY h
 obtain⟨a,ha⟩:=Gd h
 obtain⟨b,hb⟩:=DS o.Spec h.spec
 obtain⟨c,hc⟩:=DS o.Status h.status
 rw[F103,ha,hb,hc]at h0
 unfold rest
 rw[hb,hc]
 rw[Kl]at ha
 have hv:okO o=(a&&(b&&c)):=by
  cases a<;>cases b<;>cases c<;>simp at h0<;>simp[←h0]
 rw[hv]
 by_cases hn:num o.Meta
 ·rw[if_pos hn]at ha
  rw[ha];simp[hn]
 ·rw[if_neg hn]at ha
  cases ha
  simp[hn]
theorem Kf{o:Object}(h:rest o)(u v g c:Int)(dl:Bool)(da:Int):rest ⟨⟨o.Meta.Kind,o.Meta.Namespace,o.Meta.Name,u,v,g,c,dl,da,o.Meta.Ax,o.Meta.AF,o.Meta.Au,o.Meta.Aj⟩,o.Spec,o.Status⟩:=h
def OV(rev next:Int)(o:Object):Prop:=okO o=true∧1≤o.Meta.Uid∧o.Meta.Uid<next∧1≤o.Meta.Ai∧o.Meta.Ai≤o.Meta.Version∧o.Meta.Version≤rev
theorem OV.mono{r n r' n':Int}{o:Object}(h:OV r n o)(hr:r≤r')(hn:n≤n'):OV r' n' o:=by
 obtain⟨h1,h2,h3,h4,h5,h6⟩:=h
 exact⟨h1,h2,by omega,h4,h5,by omega⟩
def KF(l:List Object):Prop:=l.Pairwise fun a b=>a.Meta.Uid≠b.Meta.Uid
def pre(s:Ag)(k:Nat):List Object:=(s.Ac.take k).foldl Bw s.Bt
structure HV(s:Ag)(i:Nat)(c:Change):Prop where
 rev:c.Rev=s.As+1+i
 ver:c.Object.Meta.Version=c.Rev
 kind:c.Kind=1∨c.Kind=2
 ov:OV (s.As+1+i) s.Am c.Object
 has:c.Kind=2→CO (cO (AA c.Object)) (pre s i)=true
structure Inv2(s:Ag):Prop where
 b:∀o∈s.Bt,OV s.As s.Am o
 h:∀(i:Nat) (c:Change),s.Ac[i]? =some c→HV s i c
 d:∀k,k≤s.Ac.length→KF (pre s k)
theorem CE{s:Ag}{k:Nat}{c:Change}(h:s.Ac[k]? =some c):pre s (k+1)=Bw (pre s k) c:=by
 unfold pre
 obtain⟨h1,h2⟩:=List.getElem?_eq_some_iff.1 h
 rw[List.take_add_one,h,List.foldl_append];rfl
theorem IJ{s:Ag}(h:Inv2 s):∀k,k≤s.Ac.length→∀o∈pre s k,OV (s.As+k) s.Am o
 |0,_,o,ho=>by
  have:=h.b o (by unfold pre at ho;simpa using ho)
  exact this.mono (by omega) (by omega)
 |k+1,hk,o,ho=>by
  have hc:s.Ac[k]? =some s.Ac[k]:=List.getElem?_eq_getElem (by omega)
  rw[CE hc]at ho
  rcases Eg ho with h1|h1
  ·exact(IJ h k (by omega) o h1).mono (by omega) (by omega)
  ·rw[h1];exact((h.h k _ hc).ov).mono (by omega) (by omega)
theorem Jp{n:Nat}{s:Ag}(hi:Inv n s):pre s s.Ac.length=s.Aa:=by
 unfold pre;rw[List.take_length];exact hi.rp
theorem Fc{n:Nat}{s:Ag}(hi:Inv n s)(h:Inv2 s):(∀o∈s.Aa,OV s.Rev s.Am o)∧KF s.Aa:=by
 rw[←Jp hi]
 refine⟨fun o ho=>(IJ h _ (Nat.le_refl _) o ho).mono (by have:=hi.hl;omega) (by omega),h.d _ (Nat.le_refl _)⟩
theorem Gg(c:Object→Int)(x:Object):∀l:List Object,(DB c x l).Perm (x::l)
 |[]=>List.Perm.refl _
 |y::l=>by
  unfold DB
  split
  ·exact((Gg c x l).cons y).trans (List.Perm.swap x y l)
  ·exact List.Perm.refl _
theorem LH{l:List Object}{c:Change}(h:KF l)(hc:c.Kind≠2→∀y∈l,AA y≠AA c.Object→c.Object.Meta.Uid≠y.Meta.Uid):KF (Bw l c):=by
 unfold Bw
 split
 ·exact h.filter _
 ·rename_i h2
  refine((Gg _ _ _).pairwise_iff (fun hh=>Ne.symm hh)).2 (List.pairwise_cons.2 ⟨fun y hy=>?_,h.filter _⟩)
  exact hc h2 y (DZ.1 hy).1 (DZ.1 hy).2
theorem DP{n:Nat}{s:Ag}(hi:Inv n s)(h:Inv2 s){kind:Int}{o:Object}{nu:Int}(hnu:s.Am≤nu)(hk:kind=1∨kind=2)(hv:OV (s.Rev+1) nu o)(hver:o.Meta.Version=s.Rev+1)
 (h1:kind=1→∀y∈s.Aa,AA y≠AA o→o.Meta.Uid≠y.Meta.Uid) (h2:kind=2→CO (cO (AA o)) s.Aa=true):
 Inv2 ⟨s.Rev+1,s.As,nu,s.Bt,Bw s.Aa ⟨s.Rev+1,kind,o⟩,s.Ac++[⟨s.Rev+1,kind,o⟩]⟩:=by
 have hl:=hi.hl
 have hpre:∀k,k≤s.Ac.length→pre ⟨s.Rev+1,s.As,nu,s.Bt,Bw s.Aa ⟨s.Rev+1,kind,o⟩,s.Ac++[⟨s.Rev+1,kind,o⟩]⟩ k=pre s k:=fun k hk=>by
  unfold pre;rw[show((⟨s.Rev+1,s.As,nu,s.Bt,Bw s.Aa ⟨s.Rev+1,kind,o⟩,s.Ac++[⟨s.Rev+1,kind,o⟩]⟩:Ag).Ac.take k)=s.Ac.take k from List.take_append_of_le_length hk]
 have hall:=Jp hi
 have hd:=(Fc hi h).2
 refine⟨fun x hx=>(h.b x hx).mono (Int.le_refl _) hnu,fun i c hc=>?_,fun k hk2=>?_⟩
 ·rcases Nat.lt_or_ge i s.Ac.length with hlt|hge
  ·have hc':s.Ac[i]? =some c:=by rw[←List.getElem?_append_left hlt];exact hc
   have hh:=h.h i c hc'
   exact⟨hh.rev,hh.ver,hh.kind,hh.ov.mono (Int.le_refl _) hnu,fun h3=>by rw[hpre i (by omega)];exact hh.has h3⟩
  ·have hi2:i=s.Ac.length:=by
    have:=(List.getElem?_eq_some_iff.1 hc).1
    have e:((⟨s.Rev+1,s.As,nu,s.Bt,Bw s.Aa ⟨s.Rev+1,kind,o⟩,s.Ac++[⟨s.Rev+1,kind,o⟩]⟩:Ag).Ac).length=s.Ac.length+1:=by simp
    omega
   subst hi2
   have:c=⟨s.Rev+1,kind,o⟩:=by
    have h3:(s.Ac++[(⟨s.Rev+1,kind,o⟩:Change)])[s.Ac.length]? =some c:=hc
    simpa using h3.symm
   subst this
   refine⟨by show s.Rev+1=s.As+1+(s.Ac.length:Int);omega,hver,hk,hv.mono (by show s.Rev+1≤s.As+1+(s.Ac.length:Int);omega) (Int.le_refl _),fun h3=>?_⟩
   rw[hpre _ (Nat.le_refl _),hall]
   exact h2 h3
 ·rcases Nat.lt_or_ge s.Ac.length k with hlt|hge
  ·have hk3:k=s.Ac.length+1:=by
    have e:((⟨s.Rev+1,s.As,nu,s.Bt,Bw s.Aa ⟨s.Rev+1,kind,o⟩,s.Ac++[⟨s.Rev+1,kind,o⟩]⟩:Ag).Ac).length=s.Ac.length+1:=by simp
    omega
   subst hk3
   rw[CE (c:=⟨s.Rev+1,kind,o⟩) (by show(s.Ac++[(⟨s.Rev+1,kind,o⟩:Change)])[s.Ac.length]? =_;simp),hpre _ (Nat.le_refl _),hall]
   refine LH hd fun h3=>h1 ?_
   exact hk.resolve_right h3
  ·rw[hpre k hge];exact h.d k hge
open Go Go.Fw
set_option maxRecDepth 100000
set_option linter.unusedVariables false
set_option linter.unusedSimpArgs false
theorem HL{n:Nat}{s:Ag}(hi:Inv n s)(h:Inv2 s)(hn:n≤400){o:Object}(ho:OW o)(now:Int):Inv2 (Dc s o now).1:=by
 unfold Dc
 split
 ·exact h
 rename_i g1
 split
 ·exact h
 rename_i g2
 simp only[not_or,Bool.not_eq_false]at g1
 have hu:=hi.u1;have hr:=hi.fr;have hf:=hi.fl
 obtain⟨h1,h2⟩:=(Dv ho).1 g1.1
 have hov:=(Fc hi h).1
 refine DP hi h (kind:=1) (o:=Q8 s o now) (nu:=s.Am+1) (by omega) (.inl rfl) ⟨?_,?_,?_,?_,?_,?_⟩ rfl (fun _ y hy _=>?_) (fun h=>by cases h)
 ·exact(Dv (Br ho _ _ _ _ _ _)).2 ⟨⟨by show 0≤s.Am;omega,by show 0≤s.Rev+1;omega,by show(0:Int)≤1;omega,by show 0≤now;omega,Int.le_refl _,.inr rfl⟩,Kf h2 _ _ _ _ _ _⟩
 ·show 1≤s.Am;omega
 ·show s.Am<s.Am+1;omega
 ·show(1:Int)≤1;omega
 ·show(1:Int)≤s.Rev+1;omega
 ·show s.Rev+1≤s.Rev+1;omega
 ·have:=(hov y hy).2.2.1
  show s.Am≠y.Meta.Uid;omega
theorem P5{n:Nat}{s:Ag}(hi:Inv n s)(h:Inv2 s)(hn:n≤400){o old:Object}(ho:OW o)(hok:okO o=true)(hold:old∈s.Aa):OV (s.Rev+1) s.Am (CD (Dm s o old) (s.Rev+1)):=by
 obtain⟨h1,h2⟩:=(Dv ho).1 hok
 have hov:=(Fc hi h).1 old hold
 obtain⟨k1,k2,k3,k4,k5,k6⟩:=hov
 have hnum:=((Dv (hi.oo old hold)).1 k1).1
 have hr:=hi.rv;have hf:=hi.fl;have hfr:=hi.fr
 have hg:1≤(Dm s o old).Meta.Ai∧(Dm s o old).Meta.Ai≤s.Rev+1:=by
  unfold Dm
  simp only
  split
  ·omega
  ·rw[Du (by omega) (by omega)];omega
 have hu:OW (Dm s o old):=Br ho _ _ _ _ _ _
 refine⟨(Dv (Br hu _ _ _ _ _ _)).2 ⟨⟨hnum.1,by show 0≤s.Rev+1;omega,by show 0≤(Dm s o old).Meta.Ai;omega,hnum.2.2.2.1,h1.2.2.2.2.1,h1.2.2.2.2.2⟩,h2⟩,k2,k3,hg.1,hg.2,Int.le_refl _⟩
theorem On{l:List Object}(h:KF l){x y:Object}(hx:x∈l)(hy:y∈l)(hne:x≠y):x.Meta.Uid≠y.Meta.Uid:=by
 induction l with
 |nil=>cases hx
 |cons a l ih=>
  have h2:=List.pairwise_cons.1 h
  rcases List.mem_cons.1 hx with e1|h1<;>rcases List.mem_cons.1 hy with e2|h3
  ·exact(hne (e1.trans e2.symm)).elim
  ·rw[e1];exact h2.1 y h3
  ·rw[e2];exact(h2.1 x h1).symm
  ·exact ih h2.2 h1 h3
theorem G1{n:Nat}{s:Ag}(hi:Inv n s)(h:Inv2 s)(hn:n≤400){o:Object}(ho:OW o):Inv2 (Ca s o).1:=by
 unfold Ca
 split
 ·exact h
 rename_i g1
 split
 ·exact h
 ·rename_i old hg
  split
  ·exact h
  split
  ·exact h
  obtain⟨hm,hk⟩:=get_mem hg
  refine DP hi h (kind:=1) (o:=CD (Dm s o old) (s.Rev+1)) (nu:=s.Am) (Int.le_refl _) (.inl rfl) (P5 hi h hn ho (by simpa using g1) hm) rfl (fun _ y hy hne=>?_) (fun h=>by cases h)
  show old.Meta.Uid≠y.Meta.Uid
  refine On (Fc hi h).2 hm hy fun e=>hne ?_
  rw[←e,hk];rfl
theorem HI{n:Nat}{s:Ag}(hi:Inv n s)(h:Inv2 s)(hn:n≤400)(k:ByteArray)(v:Int):Inv2 (Cv s k v).1:=by
 unfold Cv
 split
 ·exact h
 ·rename_i old hg
  split
  ·exact h
  obtain⟨hm,hk⟩:=get_mem hg
  have hold:=hi.oo old hm
  obtain⟨k1,k2,k3,k4,k5,k6⟩:=(Fc hi h).1 old hm
  have hnum:=(Dv hold).1 k1
  have hr:=hi.rv;have hf:=hi.fl;have hfr:=hi.fr
  refine DP hi h (kind:=2) (o:=CD old (s.Rev+1)) (nu:=s.Am) (Int.le_refl _) (.inr rfl) ⟨(Dv (Br hold _ _ _ _ _ _)).2 ⟨⟨hnum.1.1,by show 0≤s.Rev+1;omega,hnum.1.2.2⟩,hnum.2⟩,k2,k3,k4,by show old.Meta.Ai≤s.Rev+1;omega,Int.le_refl _⟩ rfl (fun h=>by cases h) (fun _=>?_)
  have:AA (CD old (s.Rev+1))=k:=hk
  rw[this,El,hg];rfl
theorem HN{s:Ag}(rev:Int)(j:Nat):pre (EL s rev) j=pre s ((rev-s.As).toNat+j):=by
 unfold pre
 show((s.Ac.drop _).take j).foldl Bw ((s.Ac.take _).foldl Bw s.Bt)=_
 rw[←List.foldl_append,List.take_add]
theorem Ky{n:Nat}{s:Ag}(hi:Inv n s)(h:Inv2 s){rev:Int}(h1:s.As≤rev)(h2:rev≤s.Rev):Inv2 (EL s rev):=by
 have hl:=hi.hl
 have hlen:(EL s rev).Ac.length=s.Ac.length-(rev-s.As).toNat:=List.length_drop ..
 refine⟨fun o ho=>?_,fun i c hc=>?_,fun k hk=>?_⟩
 ·have:o∈pre s (rev-s.As).toNat:=ho
  exact(IJ h _ (by omega) o this).mono (by show _≤rev;omega) (Int.le_refl _)
 ·have hc':s.Ac[(rev-s.As).toNat+i]? =some c:=by
   have:(s.Ac.drop (rev-s.As).toNat)[i]? =some c:=hc
   rwa [List.getElem?_drop]at this
  have hh:=h.h _ c hc'
  refine⟨by have:=hh.rev;show c.Rev=rev+1+i;omega,hh.ver,hh.kind,hh.ov.mono (by show _≤rev+1+(i:Int);omega) (Int.le_refl _),fun h3=>?_⟩
  rw[HN];exact hh.has h3
 ·rw[HN];exact h.d _ (by omega)
theorem J8{n:Nat}{s:Ag}(hi:Inv n s)(h:Inv2 s)(hn:n≤400){op:TOp}(ho:OW op.O):Inv2 (Ec s op).1:=by
 unfold Ec
 split
 ·exact HL hi h hn ho _
 split
 ·exact G1 hi h hn (Br ho _ _ _ _ _ _)
 split
 ·exact HI hi h hn _ _
 ·show Inv2 (BU s op.Rev).1
  unfold BU
  split
  ·exact h
  ·exact Ky hi h (by omega) (by omega)
theorem U6:Inv2 S0 where
 b:=by intro o h;cases h
 h:=by intro i c hc;simp[S0]at hc
 d:=by intro k hk;unfold pre S0;simp[KF]
theorem F4:∀{l:List TOp} {n:Nat} {s:Ag},Inv n s→Inv2 s→n+l.length≤400→(∀op∈l,OW op.O)→Inv2 (Hd s l)
 |[],n,s,_,h,_,_=>h
 |op::l,n,s,hi,h,hn,ho=>by
  have h1:=ho op (List.mem_cons_self ..)
  simp only[List.length_cons]at hn
  exact F4 (l:=l) (E9 hi h1).1 (J8 hi h (by omega) h1) (by omega) fun o hx=>ho o (List.mem_cons_of_mem _ hx)
open Go Go.Fw
set_option maxRecDepth 100000
set_option linter.unusedVariables false
set_option linter.unusedSimpArgs false
theorem II{n:Nat}{s:Ag}(hi:Inv n s)(k:Nat):Sorted (pre s k)∧(∀o∈pre s k,OW o)∧(pre s k).length≤s.Bt.length+k:=
 ⟨DO hi.sb,EC OW hi.ob (fun c hc=>hi.oh c (List.mem_of_mem_take hc)),Nat.le_trans (Fh _ _) (by rw[List.length_take];omega)⟩
theorem XX{n:Nat}{s:Ag}(hi:Inv n s)(hn:n≤400){rev:Int}(h1:s.As≤rev)(h2:rev≤s.Rev):F83 s rev=some (atL s rev,0):=by
 have hr:=hi.rv;have hf:=hi.fl;have hlb:=hi.lb
 obtain⟨p1,p2,p3⟩:=HZ hi rev
 rw[F83,if_neg (by omega),decide_eq_false (by omega)]
 simp only[Option.bind_some,Bool.false_eq_true,if_false]
 rw[if_neg (by omega),Vy hi (by omega) h1 h2,Option.bind_some,D5 p2 (by omega)]
 rfl
open Go Go.Fw
set_option maxRecDepth 100000
set_option linter.unusedVariables false
set_option linter.unusedSimpArgs false
open Go Go.Fw
set_option maxRecDepth 100000
set_option linter.unusedVariables false
set_option linter.unusedSimpArgs false
theorem CL(k k':ByteArray)(v:Bool):∀m:List (ByteArray×Bool),getM k (B2 k' v m)=if k'=k then some v else getM k m
 |[]=>by simp[B2,getM]
 |e::r=>by
  rw[B2]
  by_cases h:e.1=k'
  ·rw[if_pos h,getM,getM]
   by_cases h2:k'=k
   ·rw[if_pos h2,if_pos h2]
   ·rw[if_neg h2,if_neg h2,if_neg (by rw[h];exact h2)]
  ·rw[if_neg h,getM,CL k k' v r,getM]
   by_cases h2:e.1=k
   ·rw[if_pos h2,if_pos h2,if_neg (by rw[←h2];exact fun h'=>h h'.symm)]
   ·rw[if_neg h2,if_neg h2]
open Go Go.Fw
set_option maxRecDepth 100000
set_option linter.unusedVariables false
set_option linter.unusedSimpArgs false
open Go Go.Fw
set_option maxRecDepth 100000
set_option linter.unusedVariables false
set_option linter.unusedSimpArgs false
open Go Go.Fw
set_option maxRecDepth 100000
set_option linter.unusedVariables false
set_option linter.unusedSimpArgs false
open Go Go.Fw
set_option maxRecDepth 100000
set_option linter.unusedVariables false
set_option linter.unusedSimpArgs false
open Go Go.Fw
set_option maxRecDepth 100000
set_option linter.unusedVariables false
set_option linter.unusedSimpArgs false
theorem G9(k:ByteArray):∀(l:List Label) (i:Nat),F125_l1 k l i=F190_l1 k l i
 |[],i=>by rw[F125_l1,F190_l1]
 |x::l,i=>by rw[F125_l1,F190_l1,G9 k l]
theorem Uw(l:List Label)(k:ByteArray):F125 l k=F190 l k:=by
 rw[F125,F190]
 simp only[G9]<;>rfl
theorem H2(k:ByteArray):∀(l:List ByteArray) (i:Nat),(k∈l→F126_l1 k l i=some (.inl true)∧∃j:Nat,i≤j∧j<i+l.length∧F203_l1 k l i=some (.inl (j:Int)))∧(k∉l→F126_l1 k l i=some (.inr ())∧F203_l1 k l i=some (.inr ()))
 |[],i=>⟨fun h=>(by cases h),fun _=>⟨by rw[F126_l1],by rw[F203_l1]⟩⟩
 |x::l,i=>by
  rw[F126_l1,F203_l1]
  obtain⟨a,b⟩:=H2 k l (i+1)
  by_cases hx:x=k
  ·subst hx
   simp only[if_true]
   exact⟨fun _=>⟨rfl,i,by omega,by simp,rfl⟩,fun h=>(h (List.mem_cons_self ..)).elim⟩
  ·have hk:¬k=x:=fun e=>hx e.symm
   simp only[hx,hk,if_false]
   refine⟨fun h=>?_,fun h=>?_⟩
   ·have h2:k∈l:=(List.mem_cons.1 h).resolve_left hk
    obtain⟨c,j,j1,j2,d⟩:=a h2
    exact⟨c,j,by omega,by simp only[List.length_cons];omega,d⟩
   ·have h2:k∉l:=fun hh=>h (List.mem_cons_of_mem _ hh)
    exact b h2
theorem MF(l:List ByteArray)(k:ByteArray):F126 l k=F191 l k:=by
 rw[F126,F191,F203]
 obtain⟨a,b⟩:=H2 k l 0
 by_cases hk:k∈l
 ·obtain⟨c,j,j1,j2,d⟩:=a hk
  rw[c,d]
  unfold ck
  split
  ·simp
  ·rfl
 ·obtain⟨c,d⟩:=b hk
  rw[c,d]
  unfold ck
  split
  ·simp
  ·rfl
theorem Ke(r:Ah)(l:List Label):F93 r l=F157 r l:=by
 rw[F93,F157,Uw]
 congr 1;funext t
 simp only[MF]
 by_cases h1:r.Op=1
 ·simp only[if_pos h1]
 by_cases h2:r.Op=2
 ·simp only[if_neg h1,if_pos h2]
 by_cases h3:r.Op=3
 ·have h4:¬r.Op=4:=by omega
  simp only[if_neg h1,if_neg h2,if_pos h3,if_neg h4]
  cases t.2<;>rfl
 simp only[if_neg h1,if_neg h2,if_neg h3]
 split<;>rfl
theorem Jg(l:List Label):∀(sel:List Ah) (i:Nat),F53_l1 l sel i=F117_l1 l sel i
 |[],i=>by rw[F53_l1,F117_l1]
 |x::sel,i=>by rw[F53_l1,F117_l1,Ke,Jg l sel]
theorem NX(sel:List Ah)(l:List Label):F53 sel l=F117 sel l:=by
 rw[F53,F117]
 simp only[Jg]<;>rfl
theorem NV{f:Filter}{o:Object}(h:BY f.Selector)(ho:OW o):F28 f o=some (CJ f o):=by
 rw[F28,NX,L0 h ho.labels,IE];rfl
theorem LC{f:Filter}(h:BY f.Selector):∀(l:List Object) (i:Nat) (a:List Object),(∀o∈l,OW o)→a.length+l.length≤4000000→F51_l1 f l i a=some (a++l.filter (CJ f))
 |[],i,a,_,_=>by rw[F51_l1];simp
 |o::l,i,a,ho,hl=>by
  have h1:=ho o (List.mem_cons_self ..)
  simp only[List.length_cons]at hl
  rw[F51_l1,NV h h1,Option.bind_some]
  cases hs:CJ f o with
  |false=>
   simp only[Bool.false_eq_true,if_false,Option.bind_some]
   rw[LC h l (i+1) a (fun x hx=>ho x (List.mem_cons_of_mem _ hx)) (by omega),List.filter_cons_of_neg (by simp[hs])]
  |true=>
   simp only[if_true,Option.bind_some]
   rw[Dt (by simp;omega)]
   simp only[Option.bind_some]
   rw[LC h l (i+1) _ (fun x hx=>ho x (List.mem_cons_of_mem _ hx)) (by simp;omega),List.filter_cons_of_pos (by simp[hs])]
   simp
theorem Wr{n:Nat}{s:Ag}(hi:Inv n s)(hn:n≤400){f:Filter}(h:BY f.Selector):F26 s f=some (s.Aa.filter (CJ f)):=by
 have h1:=hi.lo;have h3:=hi.rv
 rw[F26,F51,BF (by omega),Option.bind_some,LC h _ 0 [] hi.oo (by simp;omega)];rfl
open Go Go.Fw
set_option maxRecDepth 100000
set_option linter.unusedVariables false
set_option linter.unusedSimpArgs false
def wbN(n:Int):Bool:=decide (97≤n)&&decide (n≤122)||decide (48≤n)&&decide (n≤57)||decide (n=45)||decide (n=46)||decide (n=47)
def wb(c:UInt8):Bool:=wbN (c.toNat:Int)
theorem KX(n:Int):F155 n=some (wbN n):=by
 unfold F155 wbN
 by_cases h1:97≤n<;>by_cases h2:n≤122<;>by_cases h3:48≤n<;>by_cases h4:n≤57<;>by_cases h5:n=45<;>by_cases h6:n=46<;>simp[*]
theorem Xd(n:Int):F159 n=some (wbN n):=KX n
theorem IX{b:ByteArray}{i:Nat}(h:i<(bl b).length):byI b (i:Int)=some ((bl b)[i].toNat:Int):=by
 have hs:i<b.size:=h
 unfold byI
 rw[if_pos (by omega)]
 simp[hs,bl,ByteArray.getElem_eq_getElem_data]
theorem CR(b:ByteArray):b.size=(bl b).length:=rfl
def lkL(l:List UInt8):Bool:=decide (1≤l.length)&&decide (l.length≤40)&&(match l with|[]=>false|c::_=>decide (97≤c.toNat)&&decide (c.toNat≤122))&&l.all wb
def lkB(s:ByteArray):Bool:=lkL (bl s)
def NB(c:UInt8):Bool:=wb c&& !decide (c.toNat=47)
def TJ(l:List UInt8):Bool:=decide (l.length≤40)&&l.all NB
def FN(s:ByteArray):Bool:=TJ (bl s)
theorem H6(s:ByteArray)(hs:(bl s).length≤40):∀(n i k:Nat),(bl s).length=i+n→n<k→F112_l8 s k (i:Int)=some (if((bl s).drop i).all wb=true then .inr ()else .inl false)
 |0,i,k+1,hl,_=>by
  rw[F112_l8,if_neg (by rw[CR];omega),List.drop_of_length_le (by omega)];rfl
 |n+1,i,k+1,hl,hk=>by
  rw[F112_l8,if_pos (by rw[CR];omega),IX (by omega),List.drop_eq_getElem_cons (by omega),List.all_cons]
  simp only[Option.bind_some,KX]
  have e1:IntKind.i64.wrap ((i:Int)+1)=((i+1:Nat):Int):=AW (by omega)
  rw[e1,H6 s hs n (i+1) k (by omega) (by omega)]
  show(if nb (wb (bl s)[i])=true then _ else _)=_
  cases hw:wb (bl s)[i]<;>simp[Bf]
theorem SL(s:ByteArray):F112 s=some (lkB s):=by
 unfold F112 lkB lkL
 by_cases h0:s=⟨#[]⟩
 ·subst h0;rfl
 rw[if_neg h0]
 have hne:bl s≠[]:=fun e=>h0 (by rw[←Ng s,e];rfl)
 by_cases h1:40<(s.size:Int)
 ·rw[if_pos h1]
  have:¬(bl s).length≤40:=by rw[CR]at h1;omega
  simp[this]
 rw[if_neg h1]
 rw[CR]at h1
 match hb:bl s with
 |[]=>exact(hne hb).elim
 |c::r=>
  have hl:(bl s).length=r.length+1:=by rw[hb];rfl
  have hc:byI s 0=some (c.toNat:Int):=by
   have:=IX (b:=s) (i:=0) (by omega)
   rw[show((0:Nat):Int)=0 from rfl]at this
   rw[this];simp[hb]
  rw[hc]
  have h8:=H6 s (by omega) (bl s).length 0 1099511627776 (by omega) (by omega)
  rw[show((0:Nat):Int)=0 from rfl,List.drop_zero,hb]at h8
  simp only[Option.bind_some,h8]
  have hr:r.length≤39:=by omega
  by_cases g1:(c.toNat:Int)<97
  ·have:¬97≤c.toNat:=by omega
   simp[g1,this]
  ·have a1:97≤c.toNat:=by omega
   by_cases g2:122<(c.toNat:Int)
   ·have:¬c.toNat≤122:=by omega
    simp[g1,g2,this]
   ·have a2:c.toNat≤122:=by omega
    simp only[g1,g2,if_false,Option.bind_some,decide_false,Bool.false_eq_true,List.length_cons]
    cases hw:(c::r).all wb<;>simp[a1,a2,hr]
theorem P0(s:ByteArray):∀(k:Nat) (i:Int),F120_l8 s k i=F112_l8 s k i
 |0,i=>by rw[F120_l8,F112_l8]
 |k+1,i=>by rw[F120_l8,F112_l8];simp only[P0 s k,KX,Xd]
theorem XW(s:ByteArray):F120 s=F112 s:=by
 unfold F120 F112
 rw[P0]
 have e:((s.size:Int)<1)↔s=⟨#[]⟩:=by
  constructor
  ·intro h
   have:bl s=[]:=List.length_eq_zero_iff.1 (by rw[←CR];omega)
   rw[←Ng s,this];rfl
  ·intro h;subst h;decide
 by_cases h:s=⟨#[]⟩
 ·rw[if_pos h,if_pos (e.2 h)]<;>rfl
 ·rw[if_neg h,if_neg fun h'=>h (e.1 h')]<;>rfl
theorem Yw(s:ByteArray):F120 s=some (lkB s):=(XW s).trans (SL s)
theorem H5(s:ByteArray)(hs:(bl s).length≤40):∀(n i k:Nat),(bl s).length=i+n→n<k→F114_l2 s k (i:Int)=some (if((bl s).drop i).all NB=true then .inr ()else .inl false)
 |0,i,k+1,hl,_=>by
  rw[F114_l2,if_neg (by rw[CR];omega),List.drop_of_length_le (by omega)];rfl
 |n+1,i,k+1,hl,hk=>by
  rw[F114_l2,if_pos (by rw[CR];omega),IX (by omega),List.drop_eq_getElem_cons (by omega),List.all_cons]
  simp only[Option.bind_some,KX]
  have e1:IntKind.i64.wrap ((i:Int)+1)=((i+1:Nat):Int):=AW (by omega)
  rw[e1,H5 s hs n (i+1) k (by omega) (by omega)]
  show((if nb (wb (bl s)[i])=true then some true else some (decide (((bl s)[i].toNat:Int)=47))).bind _)=_
  rw[show NB (bl s)[i]=(wb (bl s)[i]&& !decide ((bl s)[i].toNat=47))from rfl]
  have e2:(((bl s)[i].toNat:Int)=47)↔((bl s)[i].toNat=47):=by omega
  cases hw:wb (bl s)[i]<;>by_cases h47:(bl s)[i].toNat=47<;>simp[Bf,e2,h47]
theorem P1(s:ByteArray):F114 s=some (FN s):=by
 unfold F114 FN TJ
 by_cases h1:40<(s.size:Int)
 ·rw[if_pos h1]
  have:¬(bl s).length≤40:=by rw[CR]at h1;omega
  simp[this]
 rw[if_neg h1]
 rw[CR]at h1
 have h8:=H5 s (by omega) (bl s).length 0 1099511627776 (by omega) (by omega)
 rw[show((0:Nat):Int)=0 from rfl,List.drop_zero]at h8
 rw[h8]
 have a:(bl s).length≤40:=by omega
 cases hw:(bl s).all NB<;>simp[a]
theorem PZ(s:ByteArray):∀(k:Nat) (i:Int),F121_l2 s k i=F114_l2 s k i
 |0,i=>by rw[F121_l2,F114_l2]
 |k+1,i=>by rw[F121_l2,F114_l2];simp only[PZ s k,KX,Xd]
theorem Yv(s:ByteArray):F121 s=some (FN s):=by
 rw[←P1];unfold F121 F114;rw[PZ]<;>rfl
def adj{α:Type}(f:α→ByteArray)(p:α→Bool):Option ByteArray→List α→Bool
 |_,[]=>true
 |q,x::r=>p x&&(match q with|none=>true|some y=>decide (lt y (f x)))&&adj f p (some (f x)) r
def prev{α:Type}(f:α→ByteArray)(l:List α):Nat→Option ByteArray
 |0=>none
 |n+1=>(l[n]?).map f
theorem Gn(r:Ah)(hs:r.Aq.length≤64):∀(n i:Nat),r.Aq.length=i+n→F80_l11 r (r.Aq.drop i) i=some (if adj id FN (prev id r.Aq i) (r.Aq.drop i)=true then .inr ()else .inl false)
 |0,i,hl=>by
  rw[List.drop_of_length_le (by omega)];rfl
 |n+1,i,hl=>by
  rw[List.drop_eq_getElem_cons (by omega),F80_l11,Gn r hs n (i+1) (by omega)]
  have hp:prev id r.Aq (i+1)=some r.Aq[i]:=by simp[prev,List.getElem?_eq_getElem (show i<r.Aq.length by omega)]
  rw[hp]
  simp only[P1,Option.bind_some,adj,Bf,id]
  cases i with
  |zero=>by_cases hv:FN r.Aq[0]=true<;>simp[prev,hv]
  |succ i=>
   have e2:IntKind.i64.wrap (((i+1:Nat):Int)-1)=(i:Int):=by rw[Du (by omega) (by omega)];omega
   have hp2:prev id r.Aq (i+1)=some r.Aq[i]:=by simp[prev,List.getElem?_eq_getElem (show i<r.Aq.length by omega)]
   have h0:0<((i+1:Nat):Int):=by omega
   simp only[e2,BH (show i<r.Aq.length by omega),hp2,h0,if_true,Option.bind_some,SD]
   by_cases hv:FN r.Aq[i+1]=true<;>by_cases hlt:lt r.Aq[i] r.Aq[i+1]<;>simp[hlt,hv]
theorem Nv(r:Ah):∀(l:List ByteArray) (i:Nat),F88_l12 r l i=F80_l11 r l i
 |[],i=>rfl
 |x::l,i=>by
  rw[F88_l12,F80_l11]
  simp only[Nv r l,Yv,P1,Sm,SD]
def Dl(r:Ah):Bool:=
 lkB r.Key&&(if r.Op=3∨r.Op=4 then decide (r.Aq.length=0)else decide (r.Op=1∨r.Op=2)&&(decide (1≤r.Aq.length)&&decide (r.Aq.length≤64)&&adj id FN none r.Aq))
theorem IA(r:Ah):((if(r.Aq.length:Int)<1 then some true else some (decide (64<(r.Aq.length:Int)))).bind fun o8=>(if o8=true then some false else(((ck (0≤r.Aq.length∧r.Aq.length≤4294967290)).bind fun u19=>F80_l11 r r.Aq 0).bind fun o11=>match o11 with|Sum.inl f=>some f|Sum.inr po11=>some true):Option Bool))=some (decide (1≤r.Aq.length)&&decide (r.Aq.length≤64)&&adj id FN none r.Aq):=by
 have e1:((r.Aq.length:Int)<1)↔¬1≤r.Aq.length:=by omega
 have e2:(64<(r.Aq.length:Int))↔¬r.Aq.length≤64:=by omega
 by_cases h1:1≤r.Aq.length
 ·by_cases h2:r.Aq.length≤64
  ·have:=Gn r h2 r.Aq.length 0 (by omega)
   rw[List.drop_zero]at this
   rw[if_neg (fun h=>e1.1 h h1),BF (by omega),Option.bind_some,Option.bind_some,this]
   simp only[h1,h2,e2,decide_true,Bool.true_and,not_true_eq_false,decide_false,Bool.false_eq_true,if_false]
   show _=some (adj id FN (prev id r.Aq 0) r.Aq)
   cases adj id FN (prev id r.Aq 0) r.Aq<;>rfl
  ·simp[e1,e2,h1,h2]
 ·simp[e1,h1]
theorem VM(r:Ah):F80 r=some (Dl r):=by
 unfold F80 Dl
 simp only[SL,Option.bind_some,Bf]
 cases hk:lkB r.Key
 ·rfl
 simp only[Bool.not_true,Bool.false_eq_true,if_false,Bool.true_and]
 unfold F113
 by_cases h3:r.Op=3
 ·simp[h3]
 by_cases h4:r.Op=4
 ·simp[h4]
 by_cases h1:r.Op=1
 ·simp only[h1,if_true,Option.bind_some,Bool.not_true,Bool.false_eq_true,if_false]
  refine(IA r).trans ?_;simp
 by_cases h2:r.Op=2
 ·simp only[h2,decide_true,if_true,Option.bind_some,Bool.not_true,Bool.false_eq_true,if_false,show¬((2:Int)=1)from by omega]
  refine(IA r).trans ?_;simp
 simp[h1,h2,h3,h4]
theorem Yu(r:Ah):F88 r=some (Dl r):=by
 unfold F88 Dl
 simp only[Yw,Option.bind_some,Bf,Nv]
 cases hk:lkB r.Key
 ·rfl
 simp only[Bool.not_true,Bool.false_eq_true,if_false,Bool.true_and]
 by_cases h3:r.Op=3
 ·simp[h3]
 by_cases h4:r.Op=4
 ·simp[h4]
 by_cases h1:r.Op=1
 ·simp only[h1,if_true,Option.bind_some,not_true_eq_false,if_false,show¬((1:Int)=3)from by omega,show¬((1:Int)=4)from by omega,decide_false,Bool.false_eq_true]
  refine(IA r).trans ?_;simp
 by_cases h2:r.Op=2
 ·simp only[h2,if_true,Option.bind_some,not_true_eq_false,not_false_eq_true,if_false,show¬((2:Int)=3)from by omega,show¬((2:Int)=4)from by omega,show¬((2:Int)=1)from by omega,decide_false,Bool.false_eq_true]
  refine(IA r).trans ?_;simp
 simp[h1,h2,h3,h4]
theorem H4:∀(l:List Ah) (i:Nat),∃r,F111_l1 l i=some r∧(l.all Dl=true→r= .inr ())∧(l.all Dl=false→∃j:Nat,r= .inl (j:Int))
 |[],i=>⟨_,rfl,fun _=>rfl,fun h=>by simp at h⟩
 |x::l,i=>by
  rw[F111_l1,List.all_cons]
  unfold F79
  simp only[VM,Option.bind_some,Bf]
  cases hv:Dl x
  ·exact⟨_,rfl,fun h=>by simp at h,fun _=>⟨i,rfl⟩⟩
  ·simpa using H4 l (i+1)
def DG(s:List Ah):Bool:=decide (s.length≤16)&&s.all Dl
theorem P3(s:List Ah):F45 s=some (DG s):=by
 unfold F45 DG
 by_cases h:s.length≤16
 ·have e:(s.length:Int)≤16:=by omega
  rw[if_pos e]
  unfold F78 F111
  obtain⟨r,h1,h2,h3⟩:=H4 s 0
  rw[BF (by omega),Option.bind_some,h1]
  cases hv:s.all Dl
  ·obtain⟨j,rfl⟩:=h3 hv
   simp[h,Bf]
  ·rw[h2 hv]
   simp[h,Bf]
 ·have e:¬(s.length:Int)≤16:=by omega
  simp[e,h]
theorem P2:∀(l:List Ah) (i:Nat),F48_l2 l i=some (if l.all Dl=true then .inr ()else .inl false)
 |[],i=>rfl
 |x::l,i=>by
  rw[F48_l2,P2 l,List.all_cons]
  simp only[Yu,Option.bind_some,Bf]
  cases hv:Dl x<;>simp
theorem Xe(s:List Ah):F48 s=some (DG s):=by
 unfold F48 DG
 by_cases h:s.length≤16
 ·have e:¬16<(s.length:Int):=by omega
  rw[if_neg e,BF (by omega),Option.bind_some,P2]
  cases hv:s.all Dl<;>simp[h]
 ·have e:16<(s.length:Int):=by omega
  simp[e,h]
open Go Go.Fw
set_option maxRecDepth 100000
set_option linter.unusedVariables false
set_option linter.unusedSimpArgs false
theorem Lf{f:Filter}{o:Object}(h:BY f.Selector)(ho:OW o):F84 f o=some (CJ f o):=by
 have e:(if f.Kind=(⟨#[]⟩:ByteArray)then(if f.Namespace=(⟨#[]⟩:ByteArray)then(some (IN f.Selector o.Meta.Ax)).bind fun t26=>some t26 else(if f.Namespace=o.Meta.Namespace then(some (IN f.Selector o.Meta.Ax)).bind fun t28=>some t28 else some false))else(if f.Kind=o.Meta.Kind then(if f.Namespace=(⟨#[]⟩:ByteArray)then(some (IN f.Selector o.Meta.Ax)).bind fun t31=>some t31 else(if f.Namespace=o.Meta.Namespace then(some (IN f.Selector o.Meta.Ax)).bind fun t33=>some t33 else some false))else some false))=some (CJ f o):=IE f o _
 rw[F84,L0 h ho.labels,e];rfl
theorem E1(l:List Ah)(h:∀r∈l,r.Aq.length≤4294967290):∀(xs:List Ah) (i:Nat),l.drop i=xs→F81_l2 xs i l=some l
 |[],i,_=>by rw[F81_l2]
 |x::xs,i,e=>by
  have hx:=AQ e
  rw[F81_l2,Be hx]
  simp only[Option.bind_some]
  rw[CB (h x (List.mem_of_getElem? hx))]
  simp only[Option.bind_some,Int.toNat_natCast]
  rw[BQ hx]
  exact E1 l h xs (i+1) (AZ e)
theorem J6{f:Filter}(h:BY f.Selector):F81 f=some f.Selector:=by
 have:=h.1
 rw[F81,CB (by omega),Option.bind_some,BF (by omega),Option.bind_some,E1 _ (fun r hr=>by have:=h.2 r hr;omega) _ 0 (List.drop_zero ..)]
 rfl
theorem FK(l:List AI)(h:∀m∈l,m.Ae.length≤4294967290):∀(xs:List AI) (i:Nat),l.drop i=xs→F86_l5 xs i l=some l
 |[],i,_=>by rw[F86_l5]
 |x::xs,i,e=>by
  have hx:=AQ e
  rw[F86_l5,Be hx]
  simp only[Option.bind_some]
  rw[CB (h x (List.mem_of_getElem? hx))]
  simp only[Option.bind_some,Int.toNat_natCast]
  rw[BQ hx]
  exact FK l h xs (i+1) (AZ e)
theorem NA{a b:Ab}(ha:AK a≤4000000)(hb:AK b≤4000000):F118 [a,b]=some ([a,b],[]):=by
 rw[F118,Ea]
 ·rfl
 ·rw[Bu];simp only[wN,wS,wL,List.map_cons,List.map_nil,List.sum_cons,List.sum_nil,show(⟨#[]⟩:ByteArray).size=0 from rfl];omega
 ·rw[Bu];simp only[wN,wS,wL,List.map_cons,List.map_nil,List.sum_cons,List.sum_nil,show(⟨#[]⟩:ByteArray).size=0 from rfl];omega
theorem Lg{o:Object}(h:OW o):F86 o=some (parts o):=by
 rw[F86,CB (by have:=h.labels;omega),Option.bind_some,CB (by have:=h.D3;omega),Option.bind_some,CB (by have:=h.IQ;omega),Option.bind_some,CB (by have:=h.Ff;omega),Option.bind_some,BF (by have:=h.Ff;omega),Option.bind_some,FK _ (fun m hm=>by have:=h.man m hm;omega) _ 0 (List.drop_zero ..),Option.bind_some,NA h.spec h.status]
 rfl
def DC(s:Ag)(f:Filter)(rev:Int):Int:=if DG f.Selector=false then 1 else if rev<0∨s.Rev<rev then 5 else if rev<s.As then 10 else 0
theorem Oe(s:Ag)(rev:Int):(if rev<0 then some true else some (decide (s.Rev<rev)))=some (decide (rev<0∨s.Rev<rev)):=by
 by_cases g:rev<0<;>simp[g]
theorem Og(s:Ag)(f:Filter)(rev:Int):F82 s f rev=some (DC s f rev):=by
 rw[F82,P3,Option.bind_some,Bf,Oe]
 unfold DC
 cases DG f.Selector
 ·rfl
 by_cases g:rev<0∨s.Rev<rev
 ·simp[g]
 ·by_cases g2:rev<s.As<;>simp[g,g2]
theorem WN(s:Ag)(f:Filter)(rev:Int):F50 s f rev=some (DC s f rev):=by
 rw[F50,Xe,Option.bind_some,Bf,Oe]
 unfold DC
 cases DG f.Selector
 ·rfl
 by_cases g:rev<0∨s.Rev<rev
 ·simp[g]
 ·by_cases g2:rev<s.As<;>simp[g,g2]
def e00:Filter:=⟨⟨#[]⟩,⟨#[]⟩,[]⟩
theorem r5start_t(s:Ag)(f:Filter)(rev:Int):F24 s f rev=some (if DC s f rev=0 then(⟨f,rev⟩,0)else(⟨e00,0⟩,DC s f rev)):=by
 rw[F24,WN,Option.bind_some]
 by_cases g:DC s f rev=0
 ·rw[if_neg (by simpa using g),if_pos g]
 ·rw[if_pos g,if_neg g];rfl
def CU(f:Filter)(l:List Object)(k:ByteArray):Bool:=match Bi l k with|none=>false|some y=>CJ f y
def evT(f:Filter)(l:List Object)(c:Change):Int:=
 if c.Kind=1∧CJ f c.Object=true then(if CU f l (AA c.Object)=true then 2 else 1)else if CU f l (AA c.Object)=true then 3 else 0
def nxt(f:Filter)(most:Int):List Change→List Object→Int→List Event→Int×List Event×Bool
 |[],_,at_,out=>(at_,out,false)
 |c::cs,l,at_,out=>
  if evT f l c=0 then nxt f most cs (Bw l c) at_ out
  else if most≤((out.length+1:Nat):Int)then(c.Rev,out++[⟨evT f l c,c.Rev,c.Object⟩],true)
  else nxt f most cs (Bw l c) c.Rev (out++[⟨evT f l c,c.Rev,c.Object⟩])
def fin(s:Ag)(r:Int×List Event×Bool):Int×List Event:=
 if r.2.2=true then(r.1,r.2.1)else if r.1<s.Rev then(s.Rev,r.2.1++[⟨4,s.Rev,ZO⟩])else(r.1,r.2.1)
def CF(s:Ag)(f:Filter)(rev most:Int):Int×List Event:=
 fin s (nxt f (if most<1 then 1 else most) (s.Ac.drop (rev-s.As).toNat) (atL s rev) rev [])
theorem Mh{f:Filter}{l:List Object}{c:Change}(h:BY f.Selector)(hc:OW c.Object):F85 f c (CU f l (AA c.Object))=some (evT f l c):=by
 rw[F85,Lf h hc]
 unfold evT
 by_cases k1:c.Kind=1
 ·rw[if_pos k1]
  simp only[k1,true_and,Option.bind_some]
  cases CJ f c.Object<;>cases CU f l (AA c.Object)<;>rfl
 ·rw[if_neg k1]
  simp only[k1,false_and,if_false,Option.bind_some]
  cases CU f l (AA c.Object)<;>rfl
open Go Go.Fw
set_option maxRecDepth 100000
set_option linter.unusedVariables false
set_option linter.unusedSimpArgs false
theorem JG{l:List Object}(hs:Sorted l){k:ByteArray}{y:Object}:Bi l k=some y↔y∈l∧AA y=k:=
 ⟨get_mem,fun h=>by rw[←h.2];exact EJ hs h.1⟩
theorem Fy{l:List Object}{c:Change}{y:Object}:y∈Bw l c↔(c.Kind≠2∧y=c.Object)∨(y∈l∧AA y≠AA c.Object):=by
 unfold Bw
 by_cases h:c.Kind=2
 ·rw[if_pos h,DZ];simp[h]
 ·rw[if_neg h,Ek,DZ];simp[h]
theorem JF{l:List Object}(hs:Sorted l)(c:Change)(u:ByteArray):Bi (Bw l c) u=if u=AA c.Object then(if c.Kind=2 then none else some c.Object)else Bi l u:=by
 refine Option.ext fun y=>?_
 rw[JG (CA c hs),Fy]
 by_cases hu:u=AA c.Object
 ·rw[if_pos hu]
  by_cases hk:c.Kind=2
  ·rw[if_pos hk]
   constructor
   ·rintro⟨h|h,e⟩
    ·exact absurd hk h.1
    ·exact absurd (e.trans hu) h.2
   ·intro h;cases h
  ·rw[if_neg hk]
   constructor
   ·rintro⟨h|h,e⟩
    ·rw[h.2]
    ·exact absurd (e.trans hu) h.2
   ·intro h
    cases h
    exact⟨.inl ⟨hk,rfl⟩,hu.symm⟩
 ·rw[if_neg hu,JG hs]
  constructor
  ·rintro⟨h|h,e⟩
   ·rw[h.2]at e;exact absurd e.symm hu
   ·exact⟨h.1,e⟩
  ·rintro⟨h,e⟩
   exact⟨.inr ⟨h,fun h2=>hu (e.symm.trans h2)⟩,e⟩
theorem Nx{f:Filter}{l:List Object}(hs:Sorted l){c:Change}(hk:c.Kind=1∨c.Kind=2)(u:ByteArray):CU f (Bw l c) u=if u=AA c.Object then decide (evT f l c=1∨evT f l c=2)else CU f l u:=by
 unfold CU
 rw[JF hs]
 by_cases hu:u=AA c.Object
 ·rw[if_pos hu,if_pos hu]
  rcases hk with hk|hk
  ·rw[if_neg (by omega)]
   show CJ f c.Object=_
   unfold evT
   simp only[hk,true_and]
   cases CJ f c.Object<;>cases CU f l (AA c.Object)<;>rfl
  ·rw[if_pos hk]
   show false=_
   unfold evT
   simp only[hk,show¬(2:Int)=1 by decide,false_and,if_false]
   cases CU f l (AA c.Object)<;>rfl
 ·rw[if_neg hu,if_neg hu]
theorem Hy{s:Ag}{f:Filter}{rev:Int}(h:DC s f rev=0):s.As≤rev∧rev≤s.Rev∧0≤rev:=by
 unfold DC at h
 split at h
 ·omega
 split at h
 ·omega
 split at h
 ·omega
 ·omega
theorem Hg{n:Nat}{s:Ag}(h:Inv2 s)(hi:Inv n s)(f:Filter)(most:Int):∀(m i:Nat) (at_:Int) (out:List Event),s.Ac.length=i+m→at_≤s.Rev→(nxt f most (s.Ac.drop i) (pre s i) at_ out).1≤s.Rev
 |0,i,at_,out,h1,h2=>by rw[List.drop_of_length_le (by omega)];exact h2
 |m+1,i,at_,out,h1,h2=>by
  have hl:=hi.hl
  have hlt:i<s.Ac.length:=by omega
  have hc:s.Ac[i]? =some s.Ac[i]:=List.getElem?_eq_getElem hlt
  have hh:=h.h i _ hc
  have:=hh.rev
  rw[List.drop_eq_getElem_cons hlt,nxt,←CE hc]
  split
  ·exact Hg h hi f most m (i+1) _ _ (by omega) h2
  split
  ·show s.Ac[i].Rev≤s.Rev;omega
  ·exact Hg h hi f most m (i+1) _ _ (by omega) (by omega)
theorem EG{n:Nat}{s:Ag}(hi:Inv n s)(f:Filter)(most:Int):∀(m i:Nat) (at_:Int) (out:List Event),s.Ac.length=i+m→(nxt f most (s.Ac.drop i) (pre s i) at_ out).2.1.length≤out.length+m
 |0,i,at_,out,h1=>by rw[List.drop_of_length_le (by omega)];exact Nat.le_refl _
 |m+1,i,at_,out,h1=>by
  have hlt:i<s.Ac.length:=by omega
  have hc:s.Ac[i]? =some s.Ac[i]:=List.getElem?_eq_getElem hlt
  rw[List.drop_eq_getElem_cons hlt,nxt,←CE hc]
  split
  ·have:=EG hi f most m (i+1) at_ out (by omega);omega
  split
  ·simp
  ·have:=EG hi f most m (i+1) s.Ac[i].Rev (out++[⟨evT f (pre s i) s.Ac[i],s.Ac[i].Rev,s.Ac[i].Object⟩]) (by omega)
   simp at this;omega
open Go Go.Fw
set_option maxRecDepth 100000
set_option linter.unusedVariables false
set_option linter.unusedSimpArgs false
theorem FG{o:Object}(h:OW o):F33 o.Meta=some (AA o):=DU h.key
theorem Hu(l:List Object)(x:Object)(u:ByteArray):Bi (l++[x]) u=(Bi l u).or (if AA x=u then some x else none):=by
 unfold Bi
 rw[List.find?_append]
 congr 1
 by_cases h:AA x=u
 ·rw[if_pos h,List.find?_cons_of_pos (by simp[Cc,h])]
 ·rw[if_neg h,List.find?_cons_of_neg (by simp[Cc,h])];rfl
theorem Lt{f:Filter}(hf:BY f.Selector){rv:Int}{l:List Object}{e:Int}(hs:Sorted l)(ho:∀o∈l,OW o):∀(xs:List Object) (i:Nat) (m:List (ByteArray×Bool)),l.drop i=xs→(∀u,(getM u m).getD false=CU f (l.take i) u)→∃m',F46_l5 (l,e) ⟨f,rv⟩ xs i m=some m'∧∀u,(getM u m').getD false=CU f l u
 |[],i,m,e1,hm=>⟨m,by rw[F46_l5],by
    have:l.length≤i:=by simpa using e1
    rwa [List.take_of_length_le this]at hm⟩
 |x::xs,i,m,e1,hm=>by
  have hx:=AQ e1
  have hxm:=List.mem_of_getElem? hx
  have h1:=ho x hxm
  rw[F46_l5,Be hx,Option.bind_some,FG h1,Option.bind_some,Lf hf h1,Option.bind_some]
  refine Lt hf hs ho xs (i+1) _ (AZ e1) fun u=>?_
  have hno:Bi (l.take i) (AA x)=none:=by
   cases hg:Bi (l.take i) (AA x)with
   |none=>rfl
   |some y=>
    obtain⟨y1,y2⟩:=get_mem hg
    have hd:Sorted (l.take i++l.drop i):=by rw[List.take_append_drop];exact hs
    have:=(List.pairwise_append.1 hd).2.2 y y1 x (by rw[e1];exact List.mem_cons_self ..)
    exact(Et this y2).elim
  rw[CL]
  unfold CU
  rw[List.take_add_one,hx,Option.toList_some,Hu]
  by_cases hu:AA x=u
  ·rw[if_pos hu,if_pos hu,←hu,hno];rfl
  ·rw[if_neg hu,if_neg hu,hm u]
   unfold CU
   cases Bi (l.take i) u<;>rfl
theorem Ki(x:Object):(⟨⟨x.Meta.Kind,x.Meta.Namespace,x.Meta.Name,x.Meta.Uid,x.Meta.Version,x.Meta.Ai,x.Meta.Created,x.Meta.Av,x.Meta.Ar,(parts x).1,(parts x).2.1,(parts x).2.2.1,(parts x).2.2.2.1⟩,⟨(parts x).2.2.2.2.1,(parts x).2.2.2.2.2.1,(parts x).2.2.2.2.2.2.1,(parts x).2.2.2.2.2.2.2.1,(parts x).2.2.2.2.2.2.2.2.1⟩,⟨(parts x).2.2.2.2.2.2.2.2.2.1,(parts x).2.2.2.2.2.2.2.2.2.2.1,(parts x).2.2.2.2.2.2.2.2.2.2.2.1,(parts x).2.2.2.2.2.2.2.2.2.2.2.2.1,(parts x).2.2.2.2.2.2.2.2.2.2.2.2.2⟩⟩:Object)=x:=by
 simp only[parts,Cr]
theorem evT_le(f:Filter)(l:List Object)(c:Change):evT f l c=0∨evT f l c=1∨evT f l c=2∨evT f l c=3:=by
 unfold evT
 split
 ·split<;>simp
 ·split<;>simp
theorem Fe{n:Nat}{s:Ag}(hi:Inv n s)(h:Inv2 s)(hn:n≤400){w:Ck}(hf:BY w.Filter.Selector)(most:Int){t1:List Ah}:∀(xs:List Change) (i:Nat) (at_:Int) (m:List (ByteArray×Bool)) (out:List Event),s.Ac.drop i=xs→w.Rev≤s.As+i→out.length≤i→(out.length:Int)<(if most<1 then 1 else most)→(∀u,(getM u m).getD false=CU w.Filter (pre s i) u)→F46_l11 t1 w most xs i at_ m out=some (if(nxt w.Filter (if most<1 then 1 else most) xs (pre s i) at_ out).2.2=true then .inl (t1,(nxt w.Filter (if most<1 then 1 else most) xs (pre s i) at_ out).1,(nxt w.Filter (if most<1 then 1 else most) xs (pre s i) at_ out).2.1,0)else .inr ((nxt w.Filter (if most<1 then 1 else most) xs (pre s i) at_ out).1,(nxt w.Filter (if most<1 then 1 else most) xs (pre s i) at_ out).2.1))
 |[],i,at_,m,out,e,_,_,_,_=>by rw[F46_l11];rfl
 |c::xs,i,at_,m,out,e,hw,ho,hlm,hm=>by
  have hr:=hi.rv;have hfl:=hi.fl;have hl:=hi.hl;have hlb:=hi.lb;have hfr:=hi.fr
  have hc:=AQ e
  have hlt:=(List.getElem?_eq_some_iff.1 hc).1
  have hh:=h.h i _ hc
  have hco:=hi.oh _ (List.mem_of_getElem? hc)
  obtain⟨p1,p2,p3⟩:=II hi i
  have hrev:=hh.rev
  have hm':∀u,(getM u (if evT w.Filter (pre s i) c=1 then B2 (AA c.Object) true m else B2 (AA c.Object) (decide (evT w.Filter (pre s i) c=2)) m)).getD false=CU w.Filter (pre s (i+1)) u:=by
   intro u
   rw[CE hc,Nx p1 hh.kind]
   by_cases hu:u=AA c.Object
   ·rw[if_pos hu]
    by_cases k1:evT w.Filter (pre s i) c=1
    ·rw[if_pos k1,CL,if_pos hu.symm];simp[k1]
    ·rw[if_neg k1,CL,if_pos hu.symm];simp[k1]
   ·rw[if_neg hu,←hm u]
    by_cases k1:evT w.Filter (pre s i) c=1
    ·rw[if_pos k1,CL,if_neg fun hh=>hu hh.symm]
    ·rw[if_neg k1,CL,if_neg fun hh=>hu hh.symm]
  have em:(if evT w.Filter (pre s i) c=1 then some (B2 (AA c.Object) true m)else some (B2 (AA c.Object) (decide (evT w.Filter (pre s i) c=2)) m))=some (if evT w.Filter (pre s i) c=1 then B2 (AA c.Object) true m else B2 (AA c.Object) (decide (evT w.Filter (pre s i) c=2)) m):=by
   split<;>rfl
  rw[F46_l11,if_neg (by omega),FG hco,Option.bind_some,hm (AA c.Object),Mh hf hco,Option.bind_some,em,Option.bind_some,nxt,←CE hc]
  by_cases g:evT w.Filter (pre s i) c=0
  ·rw[if_pos g]
   simp only[if_pos g,Option.bind_some]
   exact Fe hi h hn hf most xs (i+1) at_ _ out (AZ e) (by omega) (by omega) hlm hm'
  ·rw[if_neg g,Lg hco,Option.bind_some,Ki,Dt (by simp;omega),Option.bind_some]
   simp only[if_neg g]
   have e2:((out++[(⟨evT w.Filter (pre s i) c,c.Rev,c.Object⟩:Event)]).length:Int)=((out.length+1:Nat):Int):=by simp
   rw[e2]
   by_cases g2:(if most<1 then 1 else most)≤((out.length+1:Nat):Int)
   ·rw[if_pos (show((out.length+1:Nat):Int)=(if most<1 then 1 else most)by omega)]
    simp only[if_pos g2,Option.map_some,Option.bind_some,if_true]
   ·rw[if_neg (show¬((out.length+1:Nat):Int)=(if most<1 then 1 else most)by omega)]
    simp only[if_neg g2,Option.bind_some]
    exact Fe hi h hn hf most xs (i+1) _ _ _ (AZ e) (by omega) (by simp;omega) (by simp only[List.length_append,List.length_cons,List.length_nil];omega) hm'
theorem G4{n:Nat}{s:Ag}(hi:Inv n s)(h:Inv2 s){w:Ck}(most:Int){t1:List Ah}{k:Nat}(hk:w.Rev=s.As+k)(hkl:k≤s.Ac.length)(at_:Int)(m:List (ByteArray×Bool))(out:List Event):∀(d i:Nat),i+d=k→F46_l11 t1 w most (s.Ac.drop i) i at_ m out=F46_l11 t1 w most (s.Ac.drop k) k at_ m out
 |0,i,e=>by rw[show i=k by omega]
 |d+1,i,e=>by
  have hlt:i<s.Ac.length:=by omega
  have hc:s.Ac[i]? =some s.Ac[i]:=List.getElem?_eq_getElem hlt
  have hh:=h.h i _ hc
  have hrev:=hh.rev
  rw[List.drop_eq_getElem_cons hlt,F46_l11,if_pos (by omega)]
  simp only[Option.bind_some]
  exact G4 hi h most hk hkl at_ m out d (i+1) (by omega)
theorem Q7{n:Nat}{s:Ag}(hi:Inv n s)(h:Inv2 s)(hn:n≤400){w:Ck}(hf:BY w.Filter.Selector)(most:Int):F46 s w most=some (if DC s w.Filter w.Rev=0 then(w.Filter.Selector,(CF s w.Filter w.Rev most).1,(CF s w.Filter w.Rev most).2,0)else(w.Filter.Selector,w.Rev,[],DC s w.Filter w.Rev)):=by
 have hr:=hi.rv;have hfl:=hi.fl;have hl:=hi.hl;have hfr:=hi.fr;have hlb:=hi.lb
 rw[F46,J6 hf,Option.bind_some,Og,Option.bind_some]
 by_cases g:DC s w.Filter w.Rev=0
 ·rw[if_neg (by simpa using g),if_pos g]
  obtain⟨g1,g2,g3⟩:=Hy g
  obtain⟨k,hk⟩:∃k:Nat,w.Rev-s.As=k:=⟨(w.Rev-s.As).toNat,by omega⟩
  have ek:(w.Rev-s.As).toNat=k:=by omega
  have ea:atL s w.Rev=pre s k:=by unfold atL pre;rw[ek]
  obtain⟨p1,p2,p3⟩:=II hi k
  rw[XX hi (by omega) g1 g2,Option.bind_some,ea,BF (by show _∧(pre s k).length≤_;omega),Option.bind_some]
  obtain⟨m,m1,m2⟩:=Lt hf (rv:=w.Rev) (e:=0) p1 p2 (pre s k) 0 [] (List.drop_zero ..) (fun u=>rfl)
  show Option.bind (F46_l5 (pre s k,0) ⟨w.Filter,w.Rev⟩ (pre s k) 0 []) _=_
  rw[m1,Option.bind_some,BF (by omega),Option.bind_some]
  have e0:=G4 hi h (w:=w) most (t1:=w.Filter.Selector) (k:=k) (by omega) (by omega) w.Rev m [] k 0 (by omega)
  rw[List.drop_zero]at e0
  have e:=Fe hi h hn hf most (t1:=w.Filter.Selector) (s.Ac.drop k) k w.Rev m [] rfl (by omega) (by simp) (by simp;omega) m2
  have e2:=Hg h hi w.Filter (if most<1 then 1 else most) (s.Ac.length-k) k w.Rev [] (by omega) g2
  have e3:=EG hi w.Filter (if most<1 then 1 else most) (s.Ac.length-k) k w.Rev [] (by omega)
  rw[e0,e]
  unfold CF
  rw[ek,ea]
  generalize nxt w.Filter (if most<1 then 1 else most) (s.Ac.drop k) (pre s k) w.Rev []=r at e2 e3⊢
  obtain⟨a,o,b⟩:=r
  unfold fin
  simp only[List.length_nil]at e2 e3
  cases b with
  |true=>rfl
  |false=>
   simp only[Bool.false_eq_true,if_false,Option.bind_some]
   by_cases g4:a<s.Rev
   ·rw[if_pos g4,if_pos g4,Dt (by simp;omega)];rfl
   ·rw[if_neg g4,if_neg g4]
    rfl
 ·rw[if_pos g,if_neg g]
open Go Go.Fw
set_option maxRecDepth 100000
set_option linter.unusedVariables false
set_option linter.unusedSimpArgs false
theorem IL{f:Filter}{most:Int}:∀(cs:List Change) (l:List Object) (at_:Int) (out:List Event),(∀c∈cs,OW c.Object)→(∀e∈out,OW e.Object)→∀e∈(nxt f most cs l at_ out).2.1,OW e.Object
 |[],l,at_,out,_,h=>h
 |c::cs,l,at_,out,hc,h=>by
  have h1:∀e∈out++[(⟨evT f l c,c.Rev,c.Object⟩:Event)],OW e.Object:=fun e he=>by
   rcases List.mem_append.1 he with he|he
   ·exact h e he
   ·rw[List.mem_singleton.1 he];exact hc c (List.mem_cons_self ..)
  have hcs:∀c∈cs,OW c.Object:=fun x hx=>hc x (List.mem_cons_of_mem _ hx)
  rw[nxt]
  split
  ·exact IL cs _ _ _ hcs h
  split
  ·exact h1
  ·exact IL cs _ _ _ hcs h1
theorem Hh{n:Nat}{s:Ag}(hi:Inv n s)(f:Filter)(rev most:Int):∀e∈(CF s f rev most).2,OW e.Object:=by
 have h1:=IL (f:=f) (most:=if most<1 then 1 else most) (s.Ac.drop (rev-s.As).toNat) (atL s rev) rev [] (fun c hc=>hi.oh c (List.mem_of_mem_drop hc)) (fun _ h=>by cases h)
 unfold CF
 generalize nxt f (if most<1 then 1 else most) (s.Ac.drop (rev-s.As).toNat) (atL s rev) rev []=r at h1⊢
 unfold fin
 split
 ·exact h1
 split
 ·intro e he
  rcases List.mem_append.1 he with he|he
  ·exact h1 e he
  ·rw[List.mem_singleton.1 he];exact Er
 ·exact h1
theorem Gc{n:Nat}{s:Ag}(hi:Inv n s)(hn:n≤400)(f:Filter){rev:Int}(most:Int)(h1:s.As≤rev)(h2:rev≤s.Rev):(CF s f rev most).2.length≤1000:=by
 have hr:=hi.rv;have hfl:=hi.fl;have hl:=hi.hl;have hfr:=hi.fr
 have e3:=EG hi f (if most<1 then 1 else most) (s.Ac.length-(rev-s.As).toNat) (rev-s.As).toNat rev [] (by omega)
 unfold CF
 show(fin s (nxt f (if most<1 then 1 else most) (s.Ac.drop (rev-s.As).toNat) (pre s (rev-s.As).toNat) rev [])).2.length≤1000
 generalize nxt f (if most<1 then 1 else most) (s.Ac.drop (rev-s.As).toNat) (pre s (rev-s.As).toNat) rev []=r at e3⊢
 simp only[List.length_nil]at e3
 unfold fin
 split
 ·show r.2.1.length≤1000;omega
 split
 ·simp only[List.length_append,List.length_cons,List.length_nil];omega
 ·show r.2.1.length≤1000;omega
theorem Of{f:Filter}{k:Nat}(hw:Ft f≤k)(hk:k≤1048576):BY f.Selector:=by
 have ha:=fun r (hr:r∈f.Selector)=>CM (w:=B9) hr
 have hl:=CV (w:=B9) (fun a=>by unfold B9;omega) f.Selector
 unfold Ft at hw
 refine⟨by omega,fun r hr=>?_⟩
 have a1:=ha r hr
 have a2:=CV (w:=wS) (fun a=>by unfold wS;omega) r.Aq
 unfold B9 at a1 hw
 omega
open Go Go.Fw
set_option maxRecDepth 100000
set_option linter.unusedVariables false
set_option linter.unusedSimpArgs false
open Go Go.Fw
set_option maxRecDepth 100000
set_option linter.unusedVariables false
set_option linter.unusedSimpArgs false
def evs(f:Filter):List Change→List Object→List Event
 |[],_=>[]
 |c::cs,l=>(if evT f l c=0 then []else [⟨evT f l c,c.Rev,c.Object⟩])++evs f cs (Bw l c)
def lastR(a:Int):List Event→Int
 |[]=>a
 |e::es=>lastR e.Rev es
theorem lastR_app(a:Int)(e:Event):∀l:List Event,lastR a (l++[e])=e.Rev
 |[]=>rfl
 |_::l=>lastR_app _ e l
theorem evs_mem{n:Nat}{s:Ag}(hi:Inv n s)(h:Inv2 s)(f:Filter):∀(cs:List Change) (i:Nat),s.Ac.drop i=cs→∀e,e∈evs f cs (pre s i)↔∃(j:Nat) (c:Change),i≤j∧s.Ac[j]? =some c∧evT f (pre s j) c≠0∧e=⟨evT f (pre s j) c,s.As+1+j,c.Object⟩
 |[],i,hd,e=>by
  have:s.Ac.length≤i:=by simpa using hd
  rw[evs]
  constructor
  ·intro hh;cases hh
  ·rintro⟨j,c,h1,h2,_⟩
   have:=(List.getElem?_eq_some_iff.1 h2).1
   omega
 |c::cs,i,hd,e=>by
  have hc:=AQ hd
  have hrev:=(h.h i c hc).rev
  rw[evs,List.mem_append,←CE hc,evs_mem hi h f cs (i+1) (AZ hd)]
  constructor
  ·rintro(h1|⟨j,d,h1,h2,h3,h4⟩)
   ·by_cases g:evT f (pre s i) c=0
    ·rw[if_pos g]at h1;cases h1
    ·rw[if_neg g,List.mem_singleton]at h1
     exact⟨i,c,Nat.le_refl _,hc,g,by rw[h1,hrev]⟩
   ·exact⟨j,d,by omega,h2,h3,h4⟩
  ·rintro⟨j,d,h1,h2,h3,h4⟩
   by_cases hj:j=i
   ·subst hj
    rw[hc]at h2
    cases h2
    left
    rw[if_neg h3,List.mem_singleton,h4,hrev]
   ·exact .inr ⟨j,d,by omega,h2,h3,h4⟩
def Inc(l:List Event):Prop:=l.Pairwise fun a b=>a.Rev<b.Rev
theorem evs_inc{n:Nat}{s:Ag}(hi:Inv n s)(h:Inv2 s)(f:Filter):∀(cs:List Change) (i:Nat),s.Ac.drop i=cs→Inc (evs f cs (pre s i))
 |[],i,hd=>List.Pairwise.nil
 |c::cs,i,hd=>by
  have hc:=AQ hd
  have hrev:=(h.h i c hc).rev
  have ih:=evs_inc hi h f cs (i+1) (AZ hd)
  have hm:=evs_mem hi h f cs (i+1) (AZ hd)
  rw[CE hc]at ih hm
  rw[evs]
  refine List.pairwise_append.2 ⟨?_,ih,?_⟩
  ·split
   ·exact List.Pairwise.nil
   ·exact List.pairwise_singleton ..
  ·intro a ha b hb
   split at ha
   ·cases ha
   ·rw[List.mem_singleton]at ha
    rw[←CE hc]at hb
    obtain⟨j,d,h1,h2,h3,h4⟩:=(evs_mem hi h f cs (i+1) (AZ hd) b).1 hb
    rw[ha,h4]
    show c.Rev<s.As+1+j
    omega
theorem evs_rev{n:Nat}{s:Ag}(hi:Inv n s)(h:Inv2 s){f:Filter}{i:Nat}{e:Event}(he:e∈evs f (s.Ac.drop i) (pre s i)):s.As+i<e.Rev∧e.Rev≤s.Rev∧e.Bl≠4:=by
 have hl:=hi.hl
 obtain⟨j,d,h1,h2,h3,h4⟩:=(evs_mem hi h f _ i rfl e).1 he
 have hj:=(List.getElem?_eq_some_iff.1 h2).1
 have:=evT_le f (pre s j) d
 rw[h4]
 refine⟨by show s.As+i<s.As+1+j;omega,by show s.As+1+j≤s.Rev;omega,by show evT f (pre s j) d≠4;omega⟩
def bmk(s:Ag)(a:Int):List Event:=if a<s.Rev then [⟨4,s.Rev,ZO⟩]else []
theorem lastR_le{b:Int}:∀(l:List Event) (a:Int),a≤b→(∀e∈l,e.Rev≤b)→lastR a l≤b
 |[],a,h,_=>h
 |e::l,a,h,hl=>lastR_le l e.Rev (hl e (List.mem_cons_self ..)) fun x hx=>hl x (List.mem_cons_of_mem _ hx)
theorem bmk_inc{n:Nat}{s:Ag}(hi:Inv n s)(h:Inv2 s)(f:Filter)(i:Nat)(a:Int):Inc (evs f (s.Ac.drop i) (pre s i)++bmk s (lastR a (evs f (s.Ac.drop i) (pre s i)))):=by
 have h1:=evs_inc hi h f _ i rfl
 have h2:∀l:List Event,Inc l→∀x∈l,∀a,x.Rev≤lastR a l:=by
  intro l
  induction l with
  |nil=>intro _ x hx;cases hx
  |cons y l ih=>
   intro hl x hx a
   have hl2:=List.pairwise_cons.1 hl
   rcases List.mem_cons.1 hx with rfl|hx
   ·cases l with
    |nil=>exact Int.le_refl _
    |cons z l=>
     have:=hl2.1 z (List.mem_cons_self ..)
     have:=ih hl2.2 z (List.mem_cons_self ..) x.Rev
     show x.Rev≤lastR x.Rev (z::l)
     omega
   ·exact ih hl2.2 x hx y.Rev
 unfold bmk
 split
 ·refine List.pairwise_append.2 ⟨h1,List.pairwise_singleton ..,fun x hx b hb=>?_⟩
  rw[List.mem_singleton.1 hb]
  have:=h2 _ h1 x hx a
  show x.Rev<s.Rev
  omega
 ·rw[List.append_nil];exact h1
open Go Go.Fw
set_option maxRecDepth 100000
set_option linter.unusedVariables false
set_option linter.unusedSimpArgs false
open Go Go.Fw
set_option maxRecDepth 100000
set_option linter.unusedVariables false
set_option linter.unusedSimpArgs false
theorem nxt_cut{n:Nat}{s:Ag}(hi:Inv n s)(h:Inv2 s)(f:Filter)(mm:Int):∀(cs:List Change) (i:Nat) (at_:Int) (out:List Event),s.Ac.drop i=cs→i≤s.Ac.length→(out.length:Int)<mm→∃j,i≤j∧j≤s.Ac.length∧(nxt f mm cs (pre s i) at_ out).2.1=out++evs f (cs.take (j-i)) (pre s i)∧(((nxt f mm cs (pre s i) at_ out).2.2=true∧(nxt f mm cs (pre s i) at_ out).1=s.As+j∧i<j∧((out.length+(evs f (cs.take (j-i)) (pre s i)).length:Nat):Int)=mm)∨((nxt f mm cs (pre s i) at_ out).2.2=false∧j=s.Ac.length∧(nxt f mm cs (pre s i) at_ out).1=lastR at_ (evs f (cs.take (j-i)) (pre s i))∧((out.length+(evs f (cs.take (j-i)) (pre s i)).length:Nat):Int)<mm))
 |[],i,at_,out,hd,hil,hm=>by
  have:s.Ac.length≤i:=by simpa using hd
  refine⟨i,Nat.le_refl _,hil,?_,.inr ⟨rfl,by omega,?_,?_⟩⟩
  ·rw[nxt,Nat.sub_self,List.take_zero,evs,List.append_nil]
  ·rw[nxt,Nat.sub_self,List.take_zero,evs];rfl
  ·rw[Nat.sub_self,List.take_zero,evs];simpa using hm
 |c::cs,i,at_,out,hd,hil,hm=>by
  have hc:=AQ hd
  have hlt:=(List.getElem?_eq_some_iff.1 hc).1
  have hrev:=(h.h i c hc).rev
  rw[nxt,←CE hc]
  by_cases g:evT f (pre s i) c=0
  ·rw[if_pos g]
   obtain⟨j,j1,j2,j3,j4⟩:=nxt_cut hi h f mm cs (i+1) at_ out (AZ hd) (by omega) hm
   have et:evs f ((c::cs).take (j-i)) (pre s i)=evs f (cs.take (j-(i+1))) (pre s (i+1)):=by
    rw[show j-i=(j-(i+1))+1 by omega,List.take_succ_cons,evs,if_pos g,CE hc];rfl
   refine⟨j,by omega,j2,by rw[et];exact j3,?_⟩
   rw[et]
   rcases j4 with⟨a,b,c',d⟩|j4
   ·exact .inl ⟨a,b,by omega,d⟩
   ·exact .inr j4
  ·rw[if_neg g]
   by_cases g2:mm≤((out.length+1:Nat):Int)
   ·rw[if_pos g2]
    have et:evs f ((c::cs).take (i+1-i)) (pre s i)=[⟨evT f (pre s i) c,c.Rev,c.Object⟩]:=by
     rw[show i+1-i=0+1 by omega,List.take_succ_cons,evs,if_neg g,List.take_zero,evs];rfl
    refine⟨i+1,by omega,hlt,by rw[et],.inl ⟨rfl,by show c.Rev=_;omega,by omega,?_⟩⟩
    rw[et]
    simp only[List.length_cons,List.length_nil];omega
   ·rw[if_neg g2]
    obtain⟨j,j1,j2,j3,j4⟩:=nxt_cut hi h f mm cs (i+1) c.Rev (out++[⟨evT f (pre s i) c,c.Rev,c.Object⟩]) (AZ hd) (by omega) (by simp only[List.length_append,List.length_cons,List.length_nil];omega)
    have et:evs f ((c::cs).take (j-i)) (pre s i)=⟨evT f (pre s i) c,c.Rev,c.Object⟩::evs f (cs.take (j-(i+1))) (pre s (i+1)):=by
     rw[show j-i=(j-(i+1))+1 by omega,List.take_succ_cons,evs,if_neg g,CE hc];rfl
    refine⟨j,by omega,j2,by rw[et,j3,List.append_assoc];rfl,?_⟩
    rw[et]
    simp only[List.length_append,List.length_cons,List.length_nil]at j4⊢
    rcases j4 with⟨a,b,c',d⟩|⟨a,b,c',d⟩
    ·exact .inl ⟨a,b,by omega,by omega⟩
    ·exact .inr ⟨a,b,c',by omega⟩
theorem Ex:∀{a b:List Object},Sorted a→Sorted b→(∀x,x∈a↔x∈b)→a=b
 |[],[],_,_,_=>rfl
 |[],y::b,_,_,h=>by have:=(h y).2 (List.mem_cons_self ..);cases this
 |x::a,[],_,_,h=>by have:=(h x).1 (List.mem_cons_self ..);cases this
 |x::a,y::b,ha,hb,h=>by
  have ha2:=List.pairwise_cons.1 ha
  have hb2:=List.pairwise_cons.1 hb
  have e:x=y:=by
   rcases List.mem_cons.1 ((h x).1 (List.mem_cons_self ..))with e|h1
   ·exact e
   ·rcases List.mem_cons.1 ((h y).2 (List.mem_cons_self ..))with e|h2
    ·exact e.symm
    ·exact(IP (ha2.1 y h2) (hb2.1 x h1)).elim
  subst e
  rw[Ex ha2.2 hb2.2 fun z=>?_]
  constructor
  ·intro hz
   rcases List.mem_cons.1 ((h z).1 (List.mem_cons_of_mem _ hz))with e|h1
   ·subst e;exact(lt_irrefl _ (ha2.1 _ hz)).elim
   ·exact h1
  ·intro hz
   rcases List.mem_cons.1 ((h z).2 (List.mem_cons_of_mem _ hz))with e|h1
   ·subst e;exact(lt_irrefl _ (hb2.1 _ hz)).elim
   ·exact h1
theorem VU{f:Filter}{l:List Object}(hs:Sorted l){x:Object}(hx:x∈l):CU f l (AA x)=CJ f x:=by
 unfold CU;rw[EJ hs hx]
theorem filt_skip{f:Filter}{l:List Object}{c:Change}(hs:Sorted l)(hk:c.Kind=1∨c.Kind=2)(h:evT f l c=0):(Bw l c).filter (CJ f)=l.filter (CJ f):=by
 refine Ex (List.Pairwise.filter _ (CA c hs)) (List.Pairwise.filter _ hs) fun x=>?_
 rw[List.mem_filter,List.mem_filter,Fy]
 unfold evT at h
 have hns:¬(c.Kind=1∧CJ f c.Object=true):=fun hh=>by rw[if_pos hh]at h;split at h<;>omega
 rw[if_neg hns]at h
 have hw:¬CU f l (AA c.Object)=true:=fun hh=>by rw[if_pos hh]at h;omega
 constructor
 ·rintro⟨h1|h1,h2⟩
  ·exact(hns ⟨by omega,by rw[←h1.2];exact h2⟩).elim
  ·exact⟨h1.1,h2⟩
 ·rintro⟨h1,h2⟩
  refine⟨.inr ⟨h1,fun e=>hw ?_⟩,h2⟩
  rw[←e,VU hs h1];exact h2
theorem filt_step{f:Filter}{l:List Object}{c:Change}(hs:Sorted l)(hk:c.Kind=1∨c.Kind=2)(h:evT f l c≠0):Bw (l.filter (CJ f)) ⟨0,if evT f l c=3 then 2 else 1,c.Object⟩=(Bw l c).filter (CJ f):=by
 refine Ex (CA _ (List.Pairwise.filter _ hs)) (List.Pairwise.filter _ (CA c hs)) fun x=>?_
 rw[List.mem_filter,Fy,Fy,List.mem_filter]
 by_cases hns:c.Kind=1∧CJ f c.Object=true
 ·have e3:¬evT f l c=3:=by unfold evT;rw[if_pos hns];split<;>omega
  rw[if_neg e3]
  constructor
  ·rintro(h1|h1)
   ·exact⟨.inl ⟨by omega,h1.2⟩,by rw[h1.2];exact hns.2⟩
   ·exact⟨.inr ⟨h1.1.1,h1.2⟩,h1.1.2⟩
  ·rintro⟨h1|h1,h2⟩
   ·exact .inl ⟨by show(1:Int)≠2;decide,h1.2⟩
   ·exact .inr ⟨⟨h1.1,h2⟩,h1.2⟩
 ·have e3:evT f l c=3:=by
   unfold evT at h⊢
   rw[if_neg hns]at h⊢
   split at h
   ·rename_i hh;rw[if_pos hh]
   ·exact(h rfl).elim
  rw[if_pos e3]
  constructor
  ·rintro(h1|h1)
   ·exact(h1.1 rfl).elim
   ·exact⟨.inr ⟨h1.1.1,h1.2⟩,h1.1.2⟩
  ·rintro⟨h1|h1,h2⟩
   ·exact(hns ⟨by omega,by rw[←h1.2];exact h2⟩).elim
   ·exact .inr ⟨⟨h1.1,h2⟩,h1.2⟩
open Go Go.Fw
set_option maxRecDepth 100000
set_option linter.unusedVariables false
set_option linter.unusedSimpArgs false
open Go Go.Fw
set_option maxRecDepth 100000
set_option linter.unusedVariables false
set_option linter.unusedSimpArgs false
theorem evs_split{n:Nat}{s:Ag}(hi:Inv n s)(f:Filter):∀(cs:List Change) (i d:Nat),s.Ac.drop i=cs→evs f cs (pre s i)=evs f (cs.take d) (pre s i)++evs f (s.Ac.drop (i+d)) (pre s (i+d))
 |cs,i,0,hd=>by rw[List.take_zero,Nat.add_zero,hd,evs];rfl
 |[],i,d+1,hd=>by
  have:s.Ac.length≤i:=by simpa using hd
  rw[List.drop_of_length_le (by omega),List.take_nil,evs,evs];rfl
 |c::cs,i,d+1,hd=>by
  have hc:=AQ hd
  rw[List.take_succ_cons,evs,evs,←CE hc,evs_split hi f cs (i+1) d (AZ hd),List.append_assoc,show i+1+d=i+(d+1)by omega]
theorem lastR_ge{a:Int}:∀(l:List Event) (b:Int),a≤b→(∀e∈l,a≤e.Rev)→a≤lastR b l
 |[],b,h,_=>h
 |e::l,b,h,hl=>lastR_ge l e.Rev (hl e (List.mem_cons_self ..)) fun x hx=>hl x (List.mem_cons_of_mem _ hx)
structure Bat(s:Ag)(f:Filter)(rev most:Int)(j:Nat)(rest:List Event):Prop where
 ev:(CF s f rev most).2=evs f ((s.Ac.drop (rev-s.As).toNat).take (j-(rev-s.As).toNat)) (pre s (rev-s.As).toNat)++rest
 re:rest=[]∨∃b,rest=[b]∧b.Bl=4
 rv:(CF s f rev most).1=s.As+j
 jl:j≤s.Ac.length
 kj:(rev-s.As).toNat≤j
 pr:rev<s.Rev→rev<(CF s f rev most).1
 ln:((CF s f rev most).2.length:Int)≤if most<1 then 1 else most
 inc:Inc (CF s f rev most).2
 gt:∀e∈(CF s f rev most).2,rev<e.Rev
theorem bat{n:Nat}{s:Ag}(hi:Inv n s)(h:Inv2 s)(hn:n≤400)(f:Filter){rev:Int}(most:Int)(h1:s.As≤rev)(h2:rev≤s.Rev):∃j rest,Bat s f rev most j rest:=by
 have hr:=hi.rv;have hfl:=hi.fl;have hfr:=hi.fr;have hhl:=hi.hl
 obtain⟨k,hk⟩:∃k:Nat,rev-s.As=k:=⟨(rev-s.As).toNat,by omega⟩
 have ek:(rev-s.As).toNat=k:=by omega
 have ea:atL s rev=pre s k:=by unfold atL pre;rw[ek]
 obtain⟨j,j1,j2,j3,j4⟩:=nxt_cut hi h f (if most<1 then 1 else most) (s.Ac.drop k) k rev [] rfl (by omega) (by simp;omega)
 have hsp:=evs_split hi f (s.Ac.drop k) k (j-k) rfl
 have hinc:=evs_inc hi h f (s.Ac.drop k) k rfl
 have hinc1:Inc (evs f ((s.Ac.drop k).take (j-k)) (pre s k)):=by rw[hsp]at hinc;exact(List.pairwise_append.1 hinc).1
 have hgt1:∀e∈evs f ((s.Ac.drop k).take (j-k)) (pre s k),rev<e.Rev:=fun e he=>by
  have:=(evs_rev hi h (f:=f) (i:=k) (e:=e) (by rw[hsp];exact List.mem_append_left _ he)).1
  omega
 have en:CF s f rev most=fin s (nxt f (if most<1 then 1 else most) (s.Ac.drop k) (pre s k) rev []):=by
  unfold CF;rw[ek,ea]
 have hall:j=s.Ac.length→evs f ((s.Ac.drop k).take (j-k)) (pre s k)=evs f (s.Ac.drop k) (pre s k):=fun e=>by
  rw[List.take_of_length_le (by rw[List.length_drop];omega)]
 generalize nxt f (if most<1 then 1 else most) (s.Ac.drop k) (pre s k) rev []=r at j3 j4 en
 rw[List.nil_append]at j3
 simp only[List.length_nil,Nat.zero_add]at j4
 rcases j4 with⟨a1,a2,a3,a4⟩|⟨a1,a2,a3,a4⟩
 ·have e:CF s f rev most=(r.1,r.2.1):=by rw[en];unfold fin;rw[if_pos a1]
  refine⟨j,[],?_⟩
  constructor
  ·rw[e,ek,List.append_nil];exact j3
  ·exact .inl rfl
  ·rw[e];exact a2
  ·exact j2
  ·omega
  ·intro _;rw[e];show rev<r.1;omega
  ·rw[e];show(r.2.1.length:Int)≤_;rw[j3];omega
  ·rw[e];show Inc r.2.1;rw[j3];exact hinc1
  ·rw[e];show∀e∈r.2.1,_;rw[j3];exact hgt1
 ·by_cases g4:r.1<s.Rev
  ·have e:CF s f rev most=(s.Rev,r.2.1++[⟨4,s.Rev,ZO⟩]):=by rw[en];unfold fin;rw[if_neg (by rw[a1];simp),if_pos g4]
   have hb:=bmk_inc hi h f k rev
   rw[hall a2]at j3 a3 a4 hgt1
   have hbm:bmk s (lastR rev (evs f (s.Ac.drop k) (pre s k)))=[⟨4,s.Rev,ZO⟩]:=by unfold bmk;rw[if_pos (by omega)]
   rw[hbm]at hb
   refine⟨j,[⟨4,s.Rev,ZO⟩],?_⟩
   constructor
   ·rw[e,ek,hall a2];show r.2.1++_=_;rw[j3]
   ·exact .inr ⟨_,rfl,rfl⟩
   ·rw[e];show s.Rev=_;omega
   ·exact j2
   ·omega
   ·intro _;rw[e];show rev<s.Rev;omega
   ·rw[e];show((r.2.1++[_]).length:Int)≤_;rw[j3];simp only[List.length_append,List.length_cons,List.length_nil];omega
   ·rw[e];show Inc (r.2.1++_);rw[j3];exact hb
   ·rw[e]
    intro x hx
    have hx2:x∈r.2.1++[⟨4,s.Rev,ZO⟩]:=hx
    rw[j3]at hx2
    rcases List.mem_append.1 hx2 with hx2|hx2
    ·exact hgt1 x hx2
    ·rw[List.mem_singleton.1 hx2]
     have:=lastR_ge (a:=rev) (evs f (s.Ac.drop k) (pre s k)) rev (Int.le_refl _) fun e he=>by have:=hgt1 e he;omega
     show rev<s.Rev
     omega
  ·have e:CF s f rev most=(r.1,r.2.1):=by rw[en];unfold fin;rw[if_neg (by rw[a1];simp),if_neg g4]
   have hle:=lastR_le (b:=s.Rev) (evs f ((s.Ac.drop k).take (j-k)) (pre s k)) rev h2 fun e he=>(evs_rev hi h (f:=f) (i:=k) (e:=e) (by rw[hsp];exact List.mem_append_left _ he)).2.1
   refine⟨j,[],?_⟩
   constructor
   ·rw[e,ek,List.append_nil];exact j3
   ·exact .inl rfl
   ·rw[e];show r.1=_;omega
   ·exact j2
   ·omega
   ·intro _;rw[e];show rev<r.1;omega
   ·rw[e];show(r.2.1.length:Int)≤_;rw[j3];omega
   ·rw[e];show Inc r.2.1;rw[j3];exact hinc1
   ·rw[e];show∀e∈r.2.1,_;rw[j3];exact hgt1
open Go Go.Fw
set_option maxRecDepth 100000
set_option linter.unusedVariables false
set_option linter.unusedSimpArgs false
theorem HY:∀x y:List UInt8,Op.bytesLess x y=decide (x<y)
 |[],[]=>by simp[Op.bytesLess]
 |[],b::y=>by simp[Op.bytesLess]
 |a::x,[]=>by simp[Op.bytesLess]
 |a::x,b::y=>by
  rw[Op.bytesLess,HY x y,Bool.eq_iff_iff]
  simp only[Bool.or_eq_true,decide_eq_true_eq,Bool.and_eq_true,beq_iff_eq,List.cons_lt_cons_iff]
theorem FO(b:ByteArray):b.toList=bl b:=by
 rw[show bl b=b.data.toList from rfl];exact Go.ByteArray.toList_eq b
theorem UZ(a b:ByteArray):lt a b↔bl a<bl b:=by
 unfold lt;rw[FO,FO,HY];simp
theorem DY(xs:List ByteArray):(DW xs).Perm xs:=by
 have h:=(List.mergeSort_perm (xs.map bl) (fun x y=>decide (x≤y))).map lb
 rw[List.map_map]at h
 have e:xs.map (lb∘bl)=xs:=by
  have:(lb∘bl)=id:=funext Ng
  rw[this,List.map_id]
 rw[e]at h;rw[G3];exact h
theorem FQ(z:ByteArray)(xs:List ByteArray):z∈DW xs↔z∈xs:=(DY xs).mem_iff
theorem Lo(xs:List ByteArray):(DW xs).Pairwise fun a b=>¬lt b a:=by
 have h:=List.pairwise_mergeSort (le:=fun x y:List UInt8=>decide (x≤y)) (fun a b c h1 h2=>by simp only[decide_eq_true_eq]at*;exact List.le_trans h1 h2) (fun a b=>by simp only[Bool.or_eq_true,decide_eq_true_eq];exact List.le_total a b) (xs.map bl)
 rw[G3,List.pairwise_map]
 refine h.imp fun{a b} hab=>?_
 rw[UZ,PU,PU]
 simp only[decide_eq_true_eq]at hab
 exact List.not_lt.2 hab
theorem NG{ks:List ByteArray}(h:ks.Nodup):(DW ks).Pairwise lt:=by
 have h1:=Lo ks
 have h2:(DW ks).Nodup:=(DY ks).nodup_iff.2 h
 exact(h1.and h2).imp fun{a b} hab=>D7 hab.1 (Ne.symm hab.2)
theorem EB{α:Type}(k k':ByteArray)(v:α):∀m:List (ByteArray×α),getM k (B2 k' v m)=if k'=k then some v else getM k m
 |[]=>by simp[B2,getM]
 |e::r=>by
  unfold B2
  by_cases h:e.1=k'
  ·rw[if_pos h]
   by_cases h2:k'=k
   ·rw[if_pos h2,getM,if_pos h2]
   ·rw[if_neg h2,getM,if_neg h2,getM,if_neg (by rw[h];exact h2)]
  ·rw[if_neg h,getM,EB k k' v r,getM]
   by_cases h2:e.1=k
   ·rw[if_pos h2,if_pos h2,if_neg (by rw[←h2];exact fun h'=>h h'.symm)]
   ·rw[if_neg h2,if_neg h2]
theorem Mq:F10=some true:=by
 set_option maxRecDepth 1000000 in
 kernel_rfl
theorem Gh{α:Type}(k k':ByteArray):∀m:List (ByteArray×α),(m.map Prod.fst).Nodup→getM k (HK k' m)=if k'=k then none else getM k m
 |[],_=>by simp[HK,getM]
 |e::r,h=>by
  rw[List.map_cons,List.nodup_cons]at h
  rw[HK]
  by_cases h1:e.1=k'
  ·rw[if_pos h1,getM]
   by_cases h2:k'=k
   ·rw[if_pos h2]
    have:e.1=k:=h1.trans h2
    have key:∀r:List (ByteArray×α),e.1∉r.map Prod.fst→getM k r=none:=by
     intro r
     induction r with
     |nil=>intro _;rfl
     |cons a r ih=>
      intro hr
      rw[List.map_cons,List.mem_cons,not_or]at hr
      rw[getM,if_neg (fun hh=>hr.1 (this.trans hh.symm)),ih hr.2]
    exact key r h.1
   ·rw[if_neg h2,if_neg (fun hh=>h2 (h1.symm.trans hh))]
  ·rw[if_neg h1,getM,getM,Gh k k' r h.2]
   by_cases h2:e.1=k
   ·rw[if_pos h2,if_pos h2,if_neg (fun hh=>h1 (h2.trans hh.symm))]
   ·rw[if_neg h2,if_neg h2]
theorem FZ{α:Type}(k:ByteArray)(v:α)(z:ByteArray):∀m:List (ByteArray×α),z∈(B2 k v m).map Prod.fst↔z=k∨z∈m.map Prod.fst
 |[]=>by simp[B2]
 |e::r=>by
  rw[B2]
  by_cases h:e.1=k
  ·rw[if_pos h];simp[h]
  ·rw[if_neg h,List.map_cons,List.mem_cons,FZ k v z r,List.map_cons,List.mem_cons]
   constructor
   ·rintro(h1|h1|h1)
    ·exact .inr (.inl h1)
    ·exact .inl h1
    ·exact .inr (.inr h1)
   ·rintro(h1|h1|h1)
    ·exact .inr (.inl h1)
    ·exact .inl h1
    ·exact .inr (.inr h1)
theorem D2{α:Type}(k:ByteArray)(v:α):∀m:List (ByteArray×α),(m.map Prod.fst).Nodup→((B2 k v m).map Prod.fst).Nodup
 |[],_=>by simp[B2]
 |e::r,h=>by
  rw[List.map_cons,List.nodup_cons]at h
  rw[B2]
  by_cases h1:e.1=k
  ·rw[if_pos h1,List.map_cons,List.nodup_cons]
   exact⟨by rw[←h1];exact h.1,h.2⟩
  ·rw[if_neg h1,List.map_cons,List.nodup_cons,FZ]
   exact⟨fun hh=>hh.elim h1 h.1,D2 k v r h.2⟩
theorem En{α:Type}(k:ByteArray):∀m:List (ByteArray×α),List.Sublist (HK k m) m
 |[]=>List.Sublist.slnil
 |e::r=>by
  rw[HK];split
  ·exact List.sublist_cons_self ..
  ·exact(En k r).cons_cons e
theorem Ei{α:Type}(k:ByteArray)(v:α):∀m:List (ByteArray×α),(B2 k v m).length≤m.length+1
 |[]=>by simp[B2]
 |e::r=>by
  rw[B2];split
  ·simp
  ·have:=Ei k v r;simp;omega
theorem Hv{α:Type}{k:ByteArray}{v:α}:∀{m:List (ByteArray×α)},getM k m=some v→k∈m.map Prod.fst
 |[],h=>by cases h
 |e::r,h=>by
  rw[getM]at h
  by_cases h1:e.1=k
  ·rw[List.map_cons,h1];exact List.mem_cons_self ..
  ·rw[if_neg h1]at h;rw[List.map_cons];exact List.mem_cons_of_mem _ (Hv h)
theorem Hq{α:Type}{k:ByteArray}:∀{m:List (ByteArray×α)},k∈m.map Prod.fst→∃v,getM k m=some v
 |[],h=>by cases h
 |e::r,h=>by
  rw[getM]
  by_cases h1:e.1=k
  ·rw[if_pos h1];exact⟨_,rfl⟩
  ·rw[if_neg h1]
   rw[List.map_cons,List.mem_cons]at h
   exact Hq (h.resolve_left fun hh=>h1 hh.symm)
structure Rel(m:List (ByteArray×Object))(l:List Object):Prop where
 nd:(m.map Prod.fst).Nodup
 gt:∀u,getM u m=Bi l u
 ln:m.length≤4000
def evC(e:Event):Change:=⟨0,if e.Bl=3 then 2 else 1,e.Object⟩
def apE(st:Int×List Object)(e:Event):Int×List Object:=if e.Rev≤st.1 then st else(e.Rev,if 1≤e.Bl∧e.Bl≤3 then Bw st.2 (evC e)else st.2)
def apS(st:Int×List Object)(l:List Event):Int×List Object:=l.foldl apE st
theorem Gm{st:Int×List Object}{e:Event}(h1:Sorted st.2)(h2:∀o∈st.2,OW o)(he:OW e.Object):Sorted (apE st e).2∧(∀o∈(apE st e).2,OW o)∧(apE st e).2.length≤st.2.length+1:=by
 unfold apE
 split
 ·exact⟨h1,h2,by omega⟩
 ·show Sorted (if _ then _ else _)∧_∧(if _ then _ else _:List Object).length≤_
  split
  ·exact⟨CA _ h1,fun o ho=>(Eg ho).elim (h2 o) fun h=>h▸he,ET _ _⟩
  ·exact⟨h1,h2,by omega⟩
theorem Gl:∀(l:List Event) {st:Int×List Object},Sorted st.2→(∀o∈st.2,OW o)→(∀e∈l,OW e.Object)→Sorted (apS st l).2∧(∀o∈(apS st l).2,OW o)∧(apS st l).2.length≤st.2.length+l.length
 |[],st,h1,h2,_=>⟨h1,h2,by simp[apS]⟩
 |e::l,st,h1,h2,h3=>by
  obtain⟨a,b,c⟩:=Gm (e:=e) h1 h2 (h3 e (List.mem_cons_self ..))
  obtain⟨x,y,z⟩:=Gl l a b fun e he=>h3 e (List.mem_cons_of_mem _ he)
  exact⟨x,y,by simp only[List.length_cons];show(apS (apE st e) l).2.length≤_;omega⟩
theorem LK:∀(l:List Object) (i:Nat) (m:List (ByteArray×Object)) (p:List Object),Sorted (p++l)→(∀o∈l,OW o)→(m.map Prod.fst).Nodup→(∀u,getM u m=Bi p u)→m.length+l.length≤1000→∃m',F11_l1 l i m=some m'∧(m'.map Prod.fst).Nodup∧(∀u,getM u m'=Bi (p++l) u)∧m'.length≤m.length+l.length
 |[],i,m,p,_,_,h3,h4,_=>⟨m,by rw[F11_l1],h3,by rw[List.append_nil];exact h4,by simp⟩
 |x::l,i,m,p,h1,h2,h3,h4,h5=>by
  have hx:=h2 x (List.mem_cons_self ..)
  have hno:Bi p (AA x)=none:=by
   cases hg:Bi p (AA x)with
   |none=>rfl
   |some y=>
    obtain⟨y1,y2⟩:=get_mem hg
    have:=(List.pairwise_append.1 h1).2.2 y y1 x (List.mem_cons_self ..)
    exact(Et this y2).elim
  have hpl:=Ei (AA x) x m
  simp only[List.length_cons]at h5
  rw[F11_l1,FG hx,Option.bind_some]
  obtain⟨m',m1,m2,m3,m4⟩:=LK l (i+1) (B2 (AA x) x m) (p++[x]) (by rw[List.append_assoc];exact h1) (fun o ho=>h2 o (List.mem_cons_of_mem _ ho)) (D2 _ _ m h3) (fun u=>by
   rw[EB,Hu,h4 u]
   by_cases hu:AA x=u
   ·rw[if_pos hu,if_pos hu,←hu,hno];rfl
   ·rw[if_neg hu,if_neg hu];cases Bi p u<;>rfl) (by omega)
  exact⟨m',m1,m2,by rw[List.append_assoc]at m3;exact m3,by simp only[List.length_cons];omega⟩
theorem LI{m:List (ByteArray×Object)}{st:Int×List Object}(hr:Rel m st.2)(hs:Sorted st.2){e:Event}(he:OW e.Object)(hl:m.length≤3999):∃m',(if e.Rev≤st.1 then some (st.1,m)else(F33 e.Object.Meta).bind fun t9=>((if e.Bl=1 then some (decide (e.Bl=1))else some (decide (e.Bl=2)))).bind fun o10=>(if o10=true then some ((e.Rev,(B2 t9 e.Object m)))else(if e.Bl=3 then some ((e.Rev,(HK t9 m)))else some ((e.Rev,m)))))=some ((apE st e).1,m')∧Rel m' (apE st e).2∧m'.length≤m.length+1:=by
 unfold apE
 by_cases g:e.Rev≤st.1
 ·rw[if_pos g,if_pos g];exact⟨m,rfl,hr,by omega⟩
 rw[if_neg g,if_neg g,FG he,Option.bind_some]
 have eo:(if e.Bl=1 then some (decide (e.Bl=1))else some (decide (e.Bl=2)))=some (decide (e.Bl=1∨e.Bl=2)):=by
  by_cases h1:e.Bl=1<;>simp[h1]
 rw[eo,Option.bind_some]
 have hgr:=JF hs (evC e)
 by_cases h12:e.Bl=1∨e.Bl=2
 ·rw[decide_eq_true h12,if_pos rfl]
  refine⟨_,rfl,?_,Ei _ _ _⟩
  show Rel _ (if _ then _ else _)
  rw[if_pos (by omega)]
  refine⟨D2 _ _ m hr.nd,fun u=>?_,by have:=Ei (AA e.Object) e.Object m;omega⟩
  rw[EB,hgr,hr.gt]
  have hk:(evC e).Kind=1:=by unfold evC;rw[if_neg (by omega)]
  by_cases hu:AA e.Object=u
  ·rw[if_pos hu,if_pos (show u=AA (evC e).Object from hu.symm),if_neg (by omega)];rfl
  ·rw[if_neg hu,if_neg (fun h:u=AA (evC e).Object=>hu h.symm)]
 ·rw[decide_eq_false h12,if_neg (by simp)]
  by_cases h3:e.Bl=3
  ·rw[if_pos h3]
   refine⟨_,rfl,?_,by have:=(En (AA e.Object) m).length_le;omega⟩
   show Rel _ (if _ then _ else _)
   rw[if_pos (by omega)]
   refine⟨((En (AA e.Object) m).map Prod.fst).nodup hr.nd,fun u=>?_,by have:=(En (AA e.Object) m).length_le;omega⟩
   rw[Gh _ _ _ hr.nd,hgr,hr.gt]
   have hk:(evC e).Kind=2:=by unfold evC;rw[if_pos h3]
   by_cases hu:AA e.Object=u
   ·rw[if_pos hu,if_pos (show u=AA (evC e).Object from hu.symm),if_pos hk]
   ·rw[if_neg hu,if_neg (fun h:u=AA (evC e).Object=>hu h.symm)]
  ·rw[if_neg h3]
   refine⟨_,rfl,?_,by omega⟩
   show Rel _ (if _ then _ else _)
   rw[if_neg (by omega)]
   exact hr
theorem LJ:∀(l:List Event) (i:Nat) (st:Int×List Object) (m:List (ByteArray×Object)),Rel m st.2→Sorted st.2→(∀o∈st.2,OW o)→(∀e∈l,OW e.Object)→m.length+l.length≤3999→∃m',F11_l5 l i st.1 m=some ((apS st l).1,m')∧Rel m' (apS st l).2∧m'.length≤m.length+l.length
 |[],i,st,m,h1,_,_,_,_=>⟨m,by rw[F11_l5];rfl,h1,by simp⟩
 |e::l,i,st,m,h1,h2,h3,h4,h5=>by
  have he:=h4 e (List.mem_cons_self ..)
  simp only[List.length_cons]at h5
  obtain⟨m',m1,m2,m3⟩:=LI h1 h2 he (by omega)
  obtain⟨a,b,_⟩:=Gm (e:=e) h2 h3 he
  obtain⟨m2',n1,n2,n3⟩:=LJ l (i+1) (apE st e) m' m2 a b (fun x hx=>h4 x (List.mem_cons_of_mem _ hx)) (by omega)
  rw[F11_l5,m1,Option.bind_some]
  exact⟨m2',n1,n2,by simp only[List.length_cons];omega⟩
open Go Go.Fw
set_option maxRecDepth 100000
set_option linter.unusedVariables false
set_option linter.unusedSimpArgs false
theorem Mn(rc:Ab→Option (List Ab×List Ay))(l:List Ab)(h:∀y∈l,rc y=some (y.At,y.Ae)):∀(xs:List Ab) (i:Nat),l.drop i=xs→F68_l3 rc xs i l=some l
 |[],i,_=>by rw[F68_l3]
 |x::xs,i,e=>by
  have hx:=AQ e
  rw[F68_l3,Be hx]
  simp only[Option.bind_some]
  rw[h x (List.mem_of_getElem? hx)]
  simp only[Option.bind_some,Int.toNat_natCast]
  rw[Cr]
  rw[BQ hx]
  exact Mn rc l h xs (i+1) (AZ e)
theorem Mm(rc:Ab→Option (List Ab×List Ay))(l:List Ay)(h:∀y∈l,rc y.V=some (y.V.At,y.V.Ae)):∀(xs:List Ay) (i:Nat),l.drop i=xs→F68_l9 rc xs i l=some l
 |[],i,_=>by rw[F68_l9]
 |x::xs,i,e=>by
  have hx:=AQ e
  rw[F68_l9,Be hx]
  simp only[Option.bind_some]
  rw[h x (List.mem_of_getElem? hx)]
  simp only[Option.bind_some,Int.toNat_natCast]
  rw[Cr,PG]
  rw[BQ hx]
  exact Mm rc l h xs (i+1) (AZ e)
theorem JN:∀(k:Nat) (v:Ab),AK v≤k→AK v≤4294967290→F68k k v=some (v.At,v.Ae)
 |0,v,h,_=>by have:=DH v;omega
 |k+1,v,h,h2=>by
  have l1:=E2 v
  have l2:=EH v
  rw[F68k,F68,CB (by omega),Option.bind_some,CB (by omega),Option.bind_some,BF (by omega),Option.bind_some,Mn _ _ (fun y hy=>JN k y (by have:=BM hy;omega) (by have:=BM hy;omega)) _ 0 (List.drop_zero ..),Option.bind_some,BF (by omega),Option.bind_some,Mm _ _ (fun y hy=>JN k y.V (by have:=Bo hy;omega) (by have:=Bo hy;omega)) _ 0 (List.drop_zero ..)]
  rfl
theorem Gj(l:List AI)(h:∀m∈l,m.Ae.length≤4294967290):∀(xs:List AI) (i:Nat),l.drop i=xs→F37_l5 xs i l=some l
 |[],i,_=>by rw[F37_l5]
 |x::xs,i,e=>by
  have hx:=AQ e
  rw[F37_l5,Be hx]
  simp only[Option.bind_some]
  rw[CB (h x (List.mem_of_getElem? hx))]
  simp only[Option.bind_some,Int.toNat_natCast]
  rw[BQ hx]
  exact Gj l h xs (i+1) (AZ e)
theorem JS{o:Object}(h:OW o):F37 o=some (o.Meta.Ax,o.Meta.AF,o.Meta.Au,o.Meta.Aj,o.Spec.At,o.Spec.Ae,o.Status.At,o.Status.Ae):=by
 rw[F37,CB (by have:=h.labels;omega),Option.bind_some,CB (by have:=h.D3;omega),Option.bind_some,CB (by have:=h.IQ;omega),Option.bind_some,CB (by have:=h.Ff;omega),Option.bind_some,BF (by have:=h.Ff;omega),Option.bind_some,Gj _ (fun m hm=>by have:=h.man m hm;omega) _ 0 (List.drop_zero ..),Option.bind_some,JN _ _ (by have:=h.spec;omega) (by have:=h.spec;omega),Option.bind_some,JN _ _ (by have:=h.status;omega) (by have:=h.status;omega)]
 rfl
theorem JR(l:List Ah)(h:∀r∈l,r.Aq.length≤4294967290):∀(xs:List Ah) (i:Nat),l.drop i=xs→F34_l2 xs i l=some l
 |[],i,_=>by rw[F34_l2]
 |x::xs,i,e=>by
  have hx:=AQ e
  rw[F34_l2,Be hx]
  simp only[Option.bind_some]
  rw[CB (h x (List.mem_of_getElem? hx))]
  simp only[Option.bind_some,Int.toNat_natCast]
  rw[BQ hx]
  exact JR l h xs (i+1) (AZ e)
theorem Mv{f:Filter}(h:BY f.Selector):F34 f=some f.Selector:=by
 have:=h.1
 rw[F34,CB (by omega),Option.bind_some,BF (by omega),Option.bind_some,JR _ (fun r hr=>by have:=h.2 r hr;omega) _ 0 (List.drop_zero ..)]
 rfl
theorem ME(r:Int)(m:List (ByteArray×Object))(ks:List ByteArray)(hm:∀k∈ks,∃o,getM k m=some o∧OW o)(hl:ks.length≤100000):∀(xs:List ByteArray) (i:Nat) (out:List Object),ks.drop i=xs→out.length+xs.length≤1000000→F11_l18 (r,m) ks xs i out=some (out++xs.filterMap fun k=>getM k m)
 |[],i,out,_,_=>by rw[F11_l18];simp
 |k::xs,i,out,e,h=>by
  have hk:=AQ e
  obtain⟨o,h1,h2⟩:=hm k (List.mem_of_getElem? hk)
  simp only[List.length_cons]at h
  rw[F11_l18,Be hk,Option.bind_some,h1,Option.bind_some,JS h2,Option.bind_some]
  simp only[Cr]
  rw[Dt (by simp;omega),Option.bind_some,ME r m ks hm hl xs (i+1) _ (AZ e) (by simp;omega),List.filterMap_cons,h1,List.append_assoc]
  rfl
theorem Kq{o:Object}(h:OW o):(AA o).size≤4294967290:=by
 have:=h.key
 show(Ej o.Meta).size≤_
 unfold Ej
 rw[bsize,bsize,bsize,bsize,sl1]
 omega
theorem Cp{m:List (ByteArray×Object)}(hk:∀k o,getM k m=some o→AA o=k):∀{ks:List ByteArray},ks.Pairwise lt→Sorted (ks.filterMap fun k=>getM k m)
 |[],_=>List.Pairwise.nil
 |k::ks,h=>by
  have h2:=List.pairwise_cons.1 h
  rw[List.filterMap_cons]
  cases hg:getM k m with
  |none=>exact Cp hk h2.2
  |some o=>
   refine List.pairwise_cons.2 ⟨fun z hz=>?_,Cp hk h2.2⟩
   obtain⟨k2,k3,k4⟩:=List.mem_filterMap.1 hz
   rw[hk k o hg,hk k2 z k4]
   exact h2.1 k2 k3
theorem JT{c:Cache}{l:List Event}(hf:BY c.Filter.Selector)(hs:Sorted c.Aa)(ho:∀o∈c.Aa,OW o)(hl:c.Aa.length≤600)(he:∀e∈l,OW e.Object)(hel:l.length≤1001):F11 c l=some (c.Filter.Selector,(apS (c.Rev,c.Aa) l).1,(apS (c.Rev,c.Aa) l).2):=by
 obtain⟨m,m1,m2,m3,m4⟩:=LK c.Aa 0 [] [] (by simpa using hs) ho (by simp) (fun u=>rfl) (by simp;omega)
 rw[List.nil_append]at m3
 simp only[List.length_nil,Nat.zero_add]at m4
 obtain⟨m',n1,n2,n3⟩:=LJ l 0 (c.Rev,c.Aa) m ⟨m2,m3,by omega⟩ hs ho he (by omega)
 obtain⟨k1,k2,k3⟩:=Gl l (st:=(c.Rev,c.Aa)) hs ho he
 rw[F11,BF (by omega),Option.bind_some,m1,Option.bind_some,BF (by omega),Option.bind_some,n1,Option.bind_some,Mv hf]
 simp only[Option.bind_some]
 generalize apS (c.Rev,c.Aa) l=st at n2 k1 k2 k3⊢
 have hgo:∀k o,getM k m'=some o→o∈st.2∧AA o=k:=fun k o h=>by rw[n2.gt]at h;exact get_mem h
 have hkeys:∀k∈m'.map Prod.fst,∃o,getM k m'=some o∧OW o:=fun k hk=>by
  obtain⟨o,h⟩:=Hq hk
  exact⟨o,h,k2 o (hgo k o h).1⟩
 have hki:KR (m'.map Prod.fst)=some (DW (m'.map Prod.fst)):=by
  unfold KR
  refine if_pos ⟨by have:=n2.ln;simp;omega,fun k hk=>?_⟩
  obtain⟨o,h1,h2⟩:=hkeys k hk
  rw[←(hgo k o h1).2];exact Kq h2
 have hsl:=(DY (m'.map Prod.fst)).length_eq
 rw[List.length_map]at hsl
 have:=n2.ln
 rw[F36]
 simp only[Option.bind_some]
 rw[hki,Option.bind_some,BF (by omega),Option.bind_some,ME _ m' _ (fun k hk=>hkeys k ((FQ k _).1 hk)) (by omega) _ 0 [] (List.drop_zero ..) (by simp;omega)]
 have e:(DW (m'.map Prod.fst)).filterMap (fun k=>getM k m')=st.2:=by
  refine Ex (Cp (fun k o h=>(hgo k o h).2) (NG n2.nd)) k1 fun x=>?_
  rw[List.mem_filterMap]
  constructor
  ·rintro⟨k,_,h⟩;exact(hgo k x h).1
  ·intro hx
   have hg:getM (AA x) m'=some x:=by rw[n2.gt];exact EJ k1 hx
   exact⟨AA x,(FQ _ _).2 (Hv hg),hg⟩
 rw[List.nil_append,e]
 rfl
open Go Go.Fw
set_option maxRecDepth 100000
set_option linter.unusedVariables false
set_option linter.unusedSimpArgs false
open Go Go.Fw
set_option maxRecDepth 100000
set_option linter.unusedVariables false
set_option linter.unusedSimpArgs false
theorem JP:∀(l:List Ah) (i:Nat),∃r,F23_l2 l i=some r
 |[],i=>⟨_,by rw[F23_l2]⟩
 |x::l,i=>by
  rw[F23_l2]
  split
  ·exact⟨_,rfl⟩
  ·exact JP l _
theorem Ot(f:Filter):∃b,F23 f=some b:=by
 rw[F23]
 split
 ·exact⟨_,rfl⟩
 ·rw[BF (by omega),Option.bind_some]
  obtain⟨r,hr⟩:=JP f.Selector 0
  rw[hr]
  cases r<;>exact⟨_,rfl⟩
open Go Go.Fw
set_option maxRecDepth 100000
set_option linter.unusedVariables false
set_option linter.unusedSimpArgs false
open Classical in
noncomputable def B1(s:Ag)(c:Cache)(most:Int):Cache×Bool:=
 if DG c.Filter.Selector=false then(c,false)
 else if c.Bq=false∨DC s c.Filter c.Rev≠0 then(⟨c.Filter,s.Rev,true,s.Aa.filter (CJ c.Filter)⟩,true)
 else(⟨c.Filter,(apS (c.Rev,c.Aa) (CF s c.Filter c.Rev most).2).1,c.Bq,(apS (c.Rev,c.Aa) (CF s c.Filter c.Rev most).2).2⟩,decide ((apS (c.Rev,c.Aa) (CF s c.Filter c.Rev most).2).1=s.Rev))
theorem K2(b:Bool)(e:Int):(if(nb b)=true then some true else some (decide (¬(e=0))))=some (decide (b=false∨e≠0)):=by
 cases b<;>simp[Bf]
theorem P9{n:Nat}{s:Ag}(hi:Inv n s)(h:Inv2 s)(hn:n≤400){c:Cache}(hf:BY c.Filter.Selector)(hs:Sorted c.Aa)(ho:∀o∈c.Aa,OW o)(hl:c.Aa.length≤600)(most:Int):F21 s c most=some ((B1 s c most).1.Filter.Selector,(B1 s c most).1.Rev,(B1 s c most).1.Bq,(B1 s c most).1.Aa,(B1 s c most).2):=by
 rw[F21,P3,Option.bind_some,Bf]
 unfold B1
 cases hv:DG c.Filter.Selector with
 |false=>
  rw[if_pos (by simp),JT hf hs ho hl (fun _ h=>by cases h) (by simp)]
  rfl
 |true=>
  rw[if_neg (by simp),if_neg (by simp),Q7 hi h hn (w:=⟨c.Filter,c.Rev⟩) hf,Option.bind_some]
  have e1:(if DC s c.Filter c.Rev=0 then(c.Filter.Selector,(CF s c.Filter c.Rev most).1,(CF s c.Filter c.Rev most).2,(0:Int))else(c.Filter.Selector,c.Rev,[],DC s c.Filter c.Rev)).2.2.2=DC s c.Filter c.Rev:=by
   split
   ·rename_i g;rw[g]
   ·rfl
  simp only[e1]
  rw[K2,Option.bind_some]
  by_cases g:c.Bq=false∨DC s c.Filter c.Rev≠0
  ·rw[decide_eq_true g,if_pos rfl,if_pos g,F47,Mv hf,Option.bind_some,Re hi hn hf]
   simp only[Option.bind_some,decide_true]
  ·rw[decide_eq_false g,if_neg (by simp),if_neg g]
   have g0:DC s c.Filter c.Rev=0:=Decidable.byContradiction fun hh=>g (.inr hh)
   simp only[if_pos g0]
   obtain⟨g1,g2,g3⟩:=Hy g0
   rw[JT hf hs ho hl (Hh hi _ _ _) (by have:=Gc hi hn c.Filter most g1 g2;omega)]
   rfl
open Go Go.Fw
set_option maxRecDepth 100000
set_option linter.unusedVariables false
set_option linter.unusedSimpArgs false
theorem comp_at{s:Ag}{fl r:Int}(h1:s.As≤fl)(h2:fl≤r):atL (EL s fl) r=atL s r:=by
 show pre (EL s fl) (r-fl).toNat=pre s (r-s.As).toNat
 rw[HN]
 congr 1;omega
theorem commit_at{n:Nat}{s:Ag}(hi:Inv n s)(k:Int)(o:Object){r:Int}(h1:s.As≤r)(h2:r≤s.Rev):atL (CI s k o) r=atL s r:=by
 have:=hi.hl
 show((s.Ac++[_]).take (r-s.As).toNat).foldl Bw s.Bt=(s.Ac.take (r-s.As).toNat).foldl Bw s.Bt
 rw[List.take_append_of_le_length (by omega)]
def Lat(s t:Ag):Prop:=s.As≤t.As∧s.Rev≤t.Rev∧∀r,t.As≤r→r≤s.Rev→atL t r=atL s r
theorem Lat.refl(s:Ag):Lat s s:=⟨Int.le_refl _,Int.le_refl _,fun _ _ _=>rfl⟩
theorem commit_lat{n:Nat}{s:Ag}(hi:Inv n s)(k:Int)(o:Object):Lat s (CI s k o):=
 ⟨Int.le_refl _,by show s.Rev≤s.Rev+1;omega,fun r h1 h2=>commit_at hi k o h1 h2⟩
theorem step_lat{n:Nat}{s:Ag}(hi:Inv n s)(op:TOp):Lat s (Ec s op).1:=by
 unfold Ec
 split
 ·unfold Dc
  split
  ·exact Lat.refl s
  split
  ·exact Lat.refl s
  ·exact commit_lat hi 1 _
 split
 ·unfold Ca
  split
  ·exact Lat.refl s
  split
  ·exact Lat.refl s
  split
  ·exact Lat.refl s
  split
  ·exact Lat.refl s
  ·exact commit_lat hi 1 _
 split
 ·unfold Cv
  split
  ·exact Lat.refl s
  split
  ·exact Lat.refl s
  ·exact commit_lat hi 2 _
 ·unfold BU
  split
  ·exact Lat.refl s
  ·rename_i g
   exact⟨by show s.As≤op.Rev;omega,Int.le_refl _,fun r h1 h2=>comp_at (by omega) h1⟩
theorem play_lat:∀{l:List TOp} {n:Nat} {s:Ag},Inv n s→(∀op∈l,OW op.O)→Lat s (Hd s l)
 |[],n,s,_,_=>Lat.refl s
 |op::l,n,s,hi,ho=>by
  obtain⟨a1,a2,a3⟩:=step_lat hi op
  have hi':=(E9 hi (ho op (List.mem_cons_self ..))).1
  obtain⟨b1,b2,b3⟩:=play_lat (l:=l) hi' fun o hx=>ho o (List.mem_cons_of_mem _ hx)
  have e:Hd s (op::l)=Hd (Ec s op).1 l:=rfl
  rw[e]
  exact⟨by omega,by omega,fun r h1 h2=>by rw[b3 r h1 (by omega),a3 r (by omega) h2]⟩
theorem at_full{n:Nat}{s:Ag}(hi:Inv n s):atL s s.Rev=s.Aa:=by
 have:=hi.hl;have:=hi.fr
 unfold atL
 rw[List.take_of_length_le (by omega)]
 exact hi.rp
theorem nxt_last{f:Filter}{mm a0:Int}:∀(cs:List Change) (l:List Object) (at_:Int) (out:List Event),at_=lastR a0 out→(nxt f mm cs l at_ out).1=lastR a0 (nxt f mm cs l at_ out).2.1
 |[],l,at_,out,h=>h
 |c::cs,l,at_,out,h=>by
  rw[nxt]
  split
  ·exact nxt_last cs _ _ _ h
  split
  ·show c.Rev=lastR a0 (out++[_]);rw[lastR_app]
  ·exact nxt_last cs _ _ _ (by rw[lastR_app])
theorem nextS_last(s:Ag)(f:Filter)(rev most:Int):(CF s f rev most).1=lastR rev (CF s f rev most).2:=by
 have h:=nxt_last (f:=f) (mm:=if most<1 then 1 else most) (a0:=rev) (s.Ac.drop (rev-s.As).toNat) (atL s rev) rev [] rfl
 unfold CF
 generalize nxt f (if most<1 then 1 else most) (s.Ac.drop (rev-s.As).toNat) (atL s rev) rev []=r at h⊢
 unfold fin
 split
 ·exact h
 split
 ·show s.Rev=lastR rev (r.2.1++[_]);rw[lastR_app]
 ·exact h
theorem apS_last:∀(l:List Event) (st:Int×List Object),Inc l→(∀e∈l,st.1<e.Rev)→(apS st l).1=lastR st.1 l
 |[],st,_,_=>rfl
 |e::l,st,h,hg=>by
  have h2:=List.pairwise_cons.1 h
  have he:=hg e (List.mem_cons_self ..)
  have e1:(apE st e).1=e.Rev:=by unfold apE;rw[if_neg (by omega)]
  show(apS (apE st e) l).1=lastR e.Rev l
  rw[apS_last l (apE st e) h2.2 (fun x hx=>by rw[e1];exact h2.1 x hx),e1]
theorem apS_evs{n:Nat}{s:Ag}(hi:Inv n s)(h:Inv2 s){f:Filter}:∀(cs:List Change) (i:Nat) (rv:Int),(∃d,(s.Ac.drop i).take d=cs)→rv≤s.As+i→(apS (rv,(pre s i).filter (CJ f)) (evs f cs (pre s i))).2=(pre s (i+cs.length)).filter (CJ f)
 |[],i,rv,_,_=>rfl
 |c::cs,i,rv,⟨d,hd⟩,hr=>by
  have hc:s.Ac[i]? =some c∧∃d,(s.Ac.drop (i+1)).take d=cs:=by
   cases d with
   |zero=>rw[List.take_zero]at hd;cases hd
   |succ d=>
    cases hx:s.Ac.drop i with
    |nil=>rw[hx]at hd;cases hd
    |cons y ys=>
     rw[hx,List.take_succ_cons]at hd
     have h1:=(List.cons.inj hd).1
     subst h1
     exact⟨AQ hx,d,by rw[AZ hx];exact(List.cons.inj hd).2⟩
  obtain⟨hc,htl⟩:=hc
  have hk:=(h.h i c hc).kind
  have hrev:=(h.h i c hc).rev
  obtain⟨p1,p2,p3⟩:=II hi i
  rw[evs,←CE hc,List.length_cons,show i+(cs.length+1)=i+1+cs.length by omega]
  by_cases g:evT f (pre s i) c=0
  ·rw[if_pos g,List.nil_append,←filt_skip p1 hk g,←CE hc]
   exact apS_evs hi h cs (i+1) rv htl (by omega)
  ·have hle:=evT_le f (pre s i) c
   rw[if_neg g,List.singleton_append]
   have e1:apE (rv,(pre s i).filter (CJ f)) ⟨evT f (pre s i) c,c.Rev,c.Object⟩=(c.Rev,(pre s (i+1)).filter (CJ f)):=by
    unfold apE
    rw[if_neg (by show¬c.Rev≤rv;omega),if_pos (by show 1≤evT f (pre s i) c∧evT f (pre s i) c≤3;omega)]
    show(c.Rev,Bw ((pre s i).filter (CJ f)) ⟨0,if evT f (pre s i) c=3 then 2 else 1,c.Object⟩)=_
    rw[filt_step p1 hk g,←CE hc]
   show(apS (apE (rv,(pre s i).filter (CJ f)) ⟨evT f (pre s i) c,c.Rev,c.Object⟩) (evs f cs (pre s (i+1)))).2=_
   rw[e1]
   exact apS_evs hi h cs (i+1) c.Rev htl (by omega)
theorem apS_next{n:Nat}{s:Ag}(hi:Inv n s)(h:Inv2 s)(hn:n≤400)(f:Filter){rev:Int}(most:Int)(h1:s.As≤rev)(h2:rev≤s.Rev):apS (rev,(atL s rev).filter (CJ f)) (CF s f rev most).2=((CF s f rev most).1,(atL s (CF s f rev most).1).filter (CJ f))∧(rev<s.Rev→rev<(CF s f rev most).1)∧rev≤(CF s f rev most).1∧(CF s f rev most).1≤s.Rev:=by
 have hhl:=hi.hl
 obtain⟨j,rest,B⟩:=bat hi h hn f most h1 h2
 have b1:=B.rv;have b2:=B.jl;have b3:=B.kj
 have hj:atL s (CF s f rev most).1=pre s j:=by
  unfold atL pre;rw[b1,show(s.As+(j:Int)-s.As).toNat=j by omega]
 refine⟨Prod.ext ?_ ?_,B.pr,by omega,by omega⟩
 ·show _=(CF s f rev most).1
  rw[nextS_last,apS_last _ _ B.inc B.gt]
 ·show _=(atL s (CF s f rev most).1).filter (CJ f)
  rw[hj,B.ev]
  have e1:=apS_evs hi h (f:=f) ((s.Ac.drop (rev-s.As).toNat).take (j-(rev-s.As).toNat)) (rev-s.As).toNat rev ⟨_,rfl⟩ (by omega)
  rw[show(rev-s.As).toNat+((s.Ac.drop (rev-s.As).toNat).take (j-(rev-s.As).toNat)).length=j by rw[List.length_take,List.length_drop];omega]at e1
  have e2:∀(st:Int×List Object),(apS st rest).2=st.2:=fun st=>by
   rcases B.re with e|⟨b,e,e4⟩
   ·rw[e];rfl
   ·rw[e]
    show(apE st b).2=st.2
    unfold apE
    split
    ·rfl
    ·rw[if_neg (by omega)]
  show(List.foldl apE (rev,(pre s (rev-s.As).toNat).filter (CJ f)) (_++rest)).2=_
  rw[List.foldl_append]
  exact(e2 _).trans e1
theorem conv_l18{n:Nat}{s:Ag}(hi:Inv n s)(h:Inv2 s)(hn:n≤400){f:Filter}(hf:BY f.Selector)(hv:DG f.Selector=true)(most:Int):∀(m i k:Nat) (rv:Int) (XC:List Object),s.Ac.length=i+m→m+2≤k→Sorted XC→(∀o∈XC,OW o)→XC.length≤500→0≤rv→rv≤s.Rev→(s.As≤rv→XC=(atL s rv).filter (CJ f)∧s.Rev-rv≤m)→F6_l18 s f most k f.Selector rv true XC false (i:Int)=some (.inr (f.Selector,s.Rev,true,s.Aa.filter (CJ f),true))
 |m,i,k+2,rv,XC,hm,hk,hs,ho,hl,hr0,hr1,hrel=>by
  have hhl:=hi.hl;have hrv:=hi.rv;have hfl:=hi.fl;have hlb:=hi.lb
  rw[F6_l18,if_pos (by omega)]
  simp only[Option.bind_some,show nb false=true from rfl,if_true]
  show Option.bind (F21 s ⟨f,rv,true,XC⟩ most) _=_
  rw[P9 hi h hn (c:=⟨f,rv,true,XC⟩) hf hs ho (by show XC.length≤_;omega),Option.bind_some]
  have done:∀(b:Int),F6_l18 s f most (k+1) f.Selector s.Rev true (s.Aa.filter (CJ f)) true b=some (.inr (f.Selector,s.Rev,true,s.Aa.filter (CJ f),true)):=fun b=>by
   rw[F6_l18]
   have:(if b≤(s.Ac.length:Int)then some (nb true)else some false)=some false:=by split<;>rfl
   rw[this];rfl
  by_cases g:s.As≤rv
  ·obtain⟨ho1,hmr⟩:=hrel g
   obtain⟨a1,a2,a3,a4⟩:=apS_next hi h hn f most g hr1
   have f0:DC s f rv=0:=by
    unfold DC
    rw[hv,if_neg (by simp),if_neg (by omega),if_neg (by omega)]
   have e:B1 s ⟨f,rv,true,XC⟩ most=(⟨f,(CF s f rv most).1,true,(atL s (CF s f rv most).1).filter (CJ f)⟩,decide ((CF s f rv most).1=s.Rev)):=by
    unfold B1
    show(if DG f.Selector=false then _ else if true=false∨DC s f rv≠0 then _ else _)=_
    rw[hv,if_neg (by simp),if_neg (by simp[f0])]
    show((⟨f,(apS (rv,XC) (CF s f rv most).2).1,true,(apS (rv,XC) (CF s f rv most).2).2⟩:Cache),decide ((apS (rv,XC) (CF s f rv most).2).1=s.Rev))=_
    rw[ho1,a1]
   rw[e]
   simp only[]
   rw[if_neg (by cases decide ((CF s f rv most).1=s.Rev)<;>simp)]
   by_cases g2:(CF s f rv most).1=s.Rev
   ·rw[decide_eq_true g2,g2,at_full hi]
    exact done _
   ·rw[decide_eq_false g2,AW (by omega)]
    obtain⟨q1,q2,q3⟩:=HZ hi (CF s f rv most).1
    have hfl2:=List.length_filter_le (CJ f) (atL s (CF s f rv most).1)
    refine conv_l18 hi h hn hf hv most (m-1) (i+1) (k+1) _ _ (by omega) (by omega) (List.Pairwise.filter _ q1) (fun o hx=>q2 o (List.mem_filter.1 hx).1) (by omega) (by omega) a4 fun _=>⟨rfl,by omega⟩
  ·have f0:DC s f rv≠0:=by
    unfold DC
    rw[hv,if_neg (by simp),if_neg (by omega),if_pos (by omega)]
    omega
   have e:B1 s ⟨f,rv,true,XC⟩ most=(⟨f,s.Rev,true,s.Aa.filter (CJ f)⟩,true):=by
    unfold B1
    show(if DG f.Selector=false then _ else if true=false∨DC s f rv≠0 then _ else _)=_
    rw[hv,if_neg (by simp),if_pos (.inr f0)]
   rw[e]
   simp only[]
   rw[if_neg (by simp)]
   exact done _
theorem CacheConverges_pure:CacheConverges.Pure:=by
 intro l f x2 most h1 h2 h3 h4 hw
 obtain⟨hl,hlen⟩:=Q5 (l:=l) (by omega)
 obtain⟨b,hb,hb2⟩:=N8 hl hlen
 obtain⟨nb1,hnb⟩:=Ot f
 have hf:BY f.Selector:=Of (k:=1048576) (by omega) (by omega)
 rw[F6,hb,Option.bind_some,hnb,Mq]
 cases b
 case false=>rfl
 cases nb1
 case false=>rfl
 have hll:=hb2 rfl
 simp only[show nb true=false from rfl,Bool.false_eq_true,if_false,Option.bind_some]
 obtain⟨k,hk,hkl⟩:∃k:Nat,(if(l.length:Int)<IntKind.i64.wrap x2 then(l.length:Int)else IntKind.i64.wrap x2)=(k:Int)∧k≤l.length:=by
  have h4:=h3.1;have h5:=h3.2
  rw[Du (by omega) (by omega)]
  by_cases g:(l.length:Int)<x2
  ·rw[if_pos g];exact⟨_,rfl,Nat.le_refl _⟩
  ·rw[if_neg g];exact⟨x2.toNat,by omega,by omega⟩
 have s1:slI l 0 (k:Int)=some (l.take k):=by
  have:=MX (xs:=l) (l:=0) (h:=k) (by omega) (by omega)
  simpa using this
 have hl1:∀op∈l.take k,OW op.O:=fun o h=>hl o (List.mem_of_mem_take h)
 have hl2:∀op∈l.drop k,OW op.O:=fun o h=>hl o (List.mem_of_mem_drop h)
 have hkt:(l.take k).length=k:=by rw[List.length_take];omega
 rw[hk,s1,Option.bind_some,Q3 (by omega) hl1,Option.bind_some,Q3 (by omega) hl,Option.bind_some,F17,Mv hf]
 simp only[Option.bind_some]
 have hi1:=Hc (l:=l.take k) Ri hl1
 have hi21:=F4 (l:=l.take k) Ri U6 (by omega) hl1
 have hi:=Hc (l:=l) Ri hl
 have hi2:=F4 (l:=l) Ri U6 (by omega) hl
 have hlat:Lat (Hd S0 (l.take k)) (Hd S0 l):=by
  have h5:=play_lat (l:=l.drop k) hi1 hl2
  have e:Hd (Hd S0 (l.take k)) (l.drop k)=Hd S0 l:=by
   unfold Hd
   rw[←List.foldl_append,List.take_append_drop]
  rw[e]at h5
  exact h5
 generalize Hd S0 (l.take k)=t at hi1 hi21 hlat
 generalize Hd S0 l=s at hi hi2 hlat
 obtain⟨t1,t2,t3⟩:=hlat
 have hro:=hi1.lo;have hrr:=hi1.rv;have hrf:=hi1.fl;have hrfr:=hi1.fr
 have hso:=hi.lo;have hsr:=hi.rv;have hsf:=hi.fl;have hsfr:=hi.fr;have hsh:=hi.hl
 show Option.bind (F21 t ⟨f,0,false,[]⟩ most) _=_
 rw[P9 hi1 hi21 (by omega) (c:=⟨f,0,false,[]⟩) hf List.Pairwise.nil (fun _ h=>by cases h) (by simp),Option.bind_some]
 show Option.bind (F24 s f s.Rev) _=_
 rw[r5start_t,Option.bind_some]
 cases hv:DG f.Selector with
 |false=>
  have e:B1 t ⟨f,0,false,[]⟩ most=(⟨f,0,false,[]⟩,false):=by
   unfold B1
   show(if DG f.Selector=false then _ else _)=_
   rw[hv,if_pos rfl]
  have f1:DC s f s.Rev=1:=by unfold DC;rw[hv,if_pos rfl]
  rw[e,f1]
  rfl
 |true=>
  have e:B1 t ⟨f,0,false,[]⟩ most=(⟨f,t.Rev,true,t.Aa.filter (CJ f)⟩,true):=by
   unfold B1
   show(if DG f.Selector=false then _ else if false=false∨_ then _ else _)=_
   rw[hv,if_neg (by simp),if_pos (.inl rfl)]
  have f1:DC s f s.Rev=0:=by
   unfold DC
   rw[hv,if_neg (by simp),if_neg (by omega),if_neg (by omega)]
  rw[e,f1]
  simp only[if_true,not_true_eq_false,if_false]
  have hfl2:=List.length_filter_le (CJ f) t.Aa
  have key:=conv_l18 hi hi2 (by omega) hf hv most s.Ac.length 0 1099511627776 t.Rev (t.Aa.filter (CJ f)) (by omega) (by omega) (List.Pairwise.filter _ hi1.so) (fun o h=>hi1.oo o (List.mem_filter.1 h).1) (by omega) (by omega) t2 (fun g=>⟨by rw[t3 t.Rev g (Int.le_refl _),at_full hi1],by omega⟩)
  rw[show((0:Nat):Int)=0 from rfl]at key
  show Option.bind (F6_l18 s f most 1099511627776 f.Selector t.Rev true (t.Aa.filter (CJ f)) false 0) _=_
  rw[key]
  simp only[Option.bind_some,if_true]
  show Option.bind (Option.bind (F26 s f) _) _=_
  rw[Wr hi (by omega) hf]
  simp only[Option.bind_some]
  have hfl3:=List.length_filter_le (CJ f) s.Aa
  rw[Ta (fun o h=>hi.oo o (List.mem_filter.1 h).1) (by omega)]
  rfl
end Go.Proofs.YtdkmamiedcanfaaGreat
