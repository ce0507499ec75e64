/- Plain laws of strings. -/
import Derived.Test.YtdejhahgpojnoaaFD
set_option linter.unusedVariables false
set_option linter.unusedSimpArgs false
set_option linter.unusedSectionVars false
namespace Go.Fw
theorem bl_irrefl:∀x:List UInt8,Op.bytesLess x x=false
 |[]=>rfl
 |a::x=>by simp[Op.bytesLess,bl_irrefl x]
theorem bl_trans:∀{x y z:List UInt8},Op.bytesLess x y=true→Op.bytesLess y z=true→Op.bytesLess x z=true
 |_,[],_,h,_=>by simp[Op.bytesLess]at h
 |_,_::_,[],_,h=>by simp[Op.bytesLess]at h
 |[],_::_,_::_,_,_=>rfl
 |a::x,b::y,c::z,h,h'=>by
  simp only[Op.bytesLess,Bool.or_eq_true,decide_eq_true_eq,Bool.and_eq_true,beq_iff_eq]at h h'⊢
  rcases h with h|⟨rfl,h⟩
  ·rcases h' with h'|⟨rfl,h'⟩
   ·exact .inl (UInt8.lt_trans h h')
   ·exact .inl h
  ·rcases h' with h'|⟨rfl,h'⟩
   ·exact .inl h'
   ·exact .inr ⟨rfl,bl_trans h h'⟩
theorem bl_tri:∀{x y:List UInt8},Op.bytesLess x y=false→Op.bytesLess y x=false→x=y
 |[],[],_,_=>rfl
 |[],_::_,h,_=>by simp[Op.bytesLess]at h
 |_::_,[],_,h=>by simp[Op.bytesLess]at h
 |a::x,b::y,h,h'=>by
  simp only[Op.bytesLess,Bool.or_eq_false_iff,decide_eq_false_iff_not,Bool.and_eq_false_iff,beq_eq_false_iff_ne,UInt8.not_lt]at h h'
  have hab:a=b:=UInt8.le_antisymm h'.1 h.1
  subst hab
  rcases h.2 with h2|h2
  ·exact(h2 rfl).elim
  rcases h'.2 with h3|h3
  ·exact(h3 rfl).elim
  rw[bl_tri h2 h3]
theorem toList_inj{x y:ByteArray}(h:x.toList=y.toList):x=y:=by
 have:=beq_str x y
 rw[h]at this
 simpa using this.symm
def lt(a b:ByteArray):Prop:=Op.bytesLess a.toList b.toList=true
instance(a b:ByteArray):Decidable (lt a b):=inferInstanceAs (Decidable (_=_))
theorem lt_irrefl(a:ByteArray):¬lt a a:=by unfold lt;rw[bl_irrefl];simp
theorem lt_trans{a b c:ByteArray}(h:lt a b)(h':lt b c):lt a c:=bl_trans h h'
theorem lt_asymm{a b:ByteArray}(h:lt a b):¬lt b a:=fun h'=>lt_irrefl a (lt_trans h h')
theorem lt_tri{a b:ByteArray}(h:¬lt a b)(h':¬lt b a):a=b:=by
 unfold lt at h h'
 exact toList_inj (bl_tri (by simpa using h) (by simpa using h'))
theorem lt_ne{a b:ByteArray}(h:lt a b):a≠b:=fun e=>lt_irrefl a (e▸h)
theorem lt_total{a b:ByteArray}(h:a≠b):lt a b∨lt b a:=by
 by_cases h1:lt a b
 ·exact .inl h1
 ·by_cases h2:lt b a
  ·exact .inr h2
  ·exact(h (lt_tri h1 h2)).elim
theorem lt_of_not{a b:ByteArray}(h:¬lt a b)(h':a≠b):lt b a:=(lt_total h').resolve_left h
theorem bl_lt(a b:ByteArray):Op.bytesLess a.toList b.toList=decide (lt a b):=by
 by_cases h:lt a b
 ·rw[decide_eq_true h];exact h
 ·rw[decide_eq_false h];simpa[lt]using h
theorem nb_not(b:Bool):nb b= !b:=rfl
theorem nb_bl(a b:ByteArray):nb (Op.bytesLess a.toList b.toList)=decide (¬lt a b):=by rw[bl_lt,nb_not];simp
theorem bl_le(a b:ByteArray):(Op.bytesLess a.toList b.toList||decide (a=b))=decide (¬lt b a):=by
 rw[bl_lt]
 by_cases h:lt a b
 ·simp[h,lt_asymm h]
 ·by_cases h2:a=b
  ·subst h2;simp[lt_irrefl]
  ·simp[h,h2,lt_of_not h h2]
theorem nb_le(a b:ByteArray):nb (Op.bytesLess a.toList b.toList||decide (a=b))=decide (lt b a):=by rw[bl_le,nb_not];simp
theorem ck_t{p:Prop}[Decidable p](h:p):ck p=some ():=if_pos h
theorem ite_some{α:Type}{p:Prop}[Decidable p](a b:α):(if p then some a else some b)=some (if p then a else b):=by split<;>rfl
theorem rdI_nat{α:Type}(l:List α)(i:Nat):rdI l (i:Int)=l[i]? :=by simp[rdI]
theorem rdI_at{α:Type}{l:List α}{i:Nat}(h:i<l.length):rdI l (i:Int)=some l[i]:=by simp[rdI,h]
theorem apI_t{α:Type}{xs ys:List α}(h:xs.length+ys.length≤4294967290):apI xs ys=some (xs++ys):=by simp[apI,h]
theorem slI_t{α:Type}{xs:List α}{l h:Nat}(h1:l≤h)(h2:h≤xs.length):slI xs l h=some ((xs.drop l).take (h-l)):=by
 simp[slI,h1,h2]
theorem wsum_le{α:Type}{w:α→Nat}(hw:∀a,1≤w a):∀l:List α,l.length≤(l.map w).sum
 |[]=>by simp
 |a::l=>by have:=wsum_le hw l;have:=hw a;simp;omega
theorem wL_len{α:Type}{w:α→Nat}(hw:∀a,1≤w a)(l:List α):l.length+1≤wL w l:=by
 have:=wsum_le hw l;unfold wL;omega
theorem wS_pos(a:ByteArray):1≤wS a:=by simp[wS]
theorem wN_pos{α:Type}(a:α):1≤wN a:=Nat.le_refl _
theorem wL_pos{α:Type}(w:α→Nat)(l:List α):1≤wL w l:=by simp[wL]
end Go.Fw
