/- Plain laws of strings. -/
import Derived.Test.YtojbebejhgbfeaaGreatFD
open Go.Op renaming bytesLess->XC
set_option linter.unusedVariables false
set_option linter.unusedSimpArgs false
set_option linter.unusedSectionVars false
namespace Go.Fw
theorem yd:∀x:List UInt8,XC x x=false
 |[]=>rfl
 |a::x=>by simp[XC,yd x]
theorem BB:∀{x y z:List UInt8},XC x y=true→XC y z=true→XC x z=true
 |_,[],_,h,_=>by simp[XC]at h
 |_,_::_,[],_,h=>by simp[XC]at h
 |[],_::_,_::_,_,_=>rfl
 |a::x,b::y,c::z,h,h'=>by
  simp only[XC,Bool.or_eq_true,decide_eq_true_eq,Bool.and_eq_true,beq_iff_eq]at h h'⊢
  rcases h with h|⟨rfl,h⟩
  ·rcases h' with h'|⟨rfl,h'⟩
   ·exact .inl (UInt8.lt_trans h h')
   ·exact .inl h
  ·rcases h' with h'|⟨rfl,h'⟩
   ·exact .inl h'
   ·exact .inr ⟨rfl,BB h h'⟩
theorem Ko:∀{x y:List UInt8},XC x y=false→XC y x=false→x=y
 |[],[],_,_=>rfl
 |[],_::_,h,_=>by simp[XC]at h
 |_::_,[],_,h=>by simp[XC]at h
 |a::x,b::y,h,h'=>by
  simp only[XC,Bool.or_eq_false_iff,decide_eq_false_iff_not,Bool.and_eq_false_iff,beq_eq_false_iff_ne,UInt8.not_lt]at h h'
  have hab:a=b:=UInt8.le_antisymm h'.1 h.1
  subst hab
  rcases h.2 with h2|h2
  ·exact(h2 rfl).elim
  rcases h'.2 with h3|h3
  ·exact(h3 rfl).elim
  rw[Ko h2 h3]
theorem toList_inj{x y:ByteArray}(h:x.toList=y.toList):x=y:=by
 have:=zI x y
 rw[h]at this
 simpa using this.symm
def lt(a b:ByteArray):Prop:=XC a.toList b.toList=true
instance(a b:ByteArray):Decidable (lt a b):=inferInstanceAs (Decidable (_=_))
theorem lt_irrefl(a:ByteArray):¬lt a a:=by unfold lt;rw[yd];simp
theorem lt_trans{a b c:ByteArray}(h:lt a b)(h':lt b c):lt a c:=BB h h'
theorem lt_asymm{a b:ByteArray}(h:lt a b):¬lt b a:=fun h'=>lt_irrefl a (lt_trans h h')
theorem sX{a b:ByteArray}(h:¬lt a b)(h':¬lt b a):a=b:=by
 unfold lt at h h'
 exact toList_inj (Ko (by simpa using h) (by simpa using h'))
theorem ga{a b:ByteArray}(h:lt a b):a≠b:=fun e=>lt_irrefl a (e▸h)
theorem vQ{a b:ByteArray}(h:a≠b):lt a b∨lt b a:=by
 by_cases h1:lt a b
 ·exact .inl h1
 ·by_cases h2:lt b a
  ·exact .inr h2
  ·exact(h (sX h1 h2)).elim
theorem xS{a b:ByteArray}(h:¬lt a b)(h':a≠b):lt b a:=(vQ h').resolve_left h
theorem fR{p:Prop}[Decidable p](h:p):ck p=some ():=if_pos h
theorem cz{α:Type}(l:List α)(i:Nat):cI l (i:Int)=l[i]? :=by simp[cI]
theorem sO{α:Type}{l:List α}{i:Nat}(h:i<l.length):cI l (i:Int)=some l[i]:=by simp[cI,h]
theorem jG{α:Type}{xs ys:List α}(h:xs.length+ys.length≤4294967290):jz xs ys=some (xs++ys):=by simp[jz,h]
theorem DY{α:Type}{w:α→Nat}(hw:∀a,1≤w a):∀l:List α,l.length≤(l.map w).sum
 |[]=>by simp
 |a::l=>by have:=DY hw l;have:=hw a;simp;omega
theorem yi{α:Type}{w:α→Nat}(hw:∀a,1≤w a)(l:List α):l.length+1≤wL w l:=by
 have:=DY hw l;unfold wL;omega
end Go.Fw
