/- The plain law. -/
import Derived.Test.YtadhmlfnfgpjjaaPP
import Derived.Test.YtadhmlfnfgpjjaaFP
import Derived.KernelRfl
set_option linter.unusedVariables false
set_option linter.unusedSimpArgs false
namespace Go.Proofs.Ytadhmlfnfgpjjaa
open Go Go.Fw
set_option maxRecDepth 1000000
theorem F12_t:F12=some true:=by kernel_rfl
set_option maxRecDepth 100000
def wbN(n:Int):Bool:=decide (97≤n)&&decide (n≤122)||decide (48≤n)&&decide (n≤57)||decide (n=45)||decide (n=46)||decide (n=47)
def wb(c:UInt8):Bool:=wbN (c.toNat:Int)
theorem F51_t(n:Int):F51 n=some (wbN n):=by
 unfold F51 wbN
 by_cases h1:97≤n<;>by_cases h2:n≤122<;>by_cases h3:48≤n<;>by_cases h4:n≤57<;>by_cases h5:n=45<;>by_cases h6:n=46<;>simp[*]
theorem F52_t(n:Int):F52 n=some (wbN n):=F51_t n
theorem byI_at{b:ByteArray}{i:Nat}(h:i<(bl b).length):byI b (i:Int)=some ((bl b)[i].toNat:Int):=by
 have hs:i<b.size:=h
 unfold byI
 rw[if_pos (by omega)]
 simp[hs,bl,ByteArray.getElem_eq_getElem_data]
theorem size_bl(b:ByteArray):b.size=(bl b).length:=rfl
def keyL(l:List UInt8):Bool:=decide (1≤l.length)&&decide (l.length≤40)&&(match l with|[]=>false|c::_=>decide (97≤c.toNat)&&decide (c.toNat≤122))&&l.all wb
def keyB(s:ByteArray):Bool:=keyL (bl s)
def valc(c:UInt8):Bool:=wb c&& !decide (c.toNat=47)
def valL(l:List UInt8):Bool:=decide (l.length≤40)&&l.all valc
def valB(s:ByteArray):Bool:=valL (bl s)
theorem F29_l8_t(s:ByteArray)(hs:(bl s).length≤40):∀(n i k:Nat),(bl s).length=i+n→n<k→F29_l8 s k (i:Int)=some (if((bl s).drop i).all wb=true then .inr ()else .inl false)
 |0,i,k+1,hl,_=>by
  rw[F29_l8,if_neg (by rw[size_bl];omega),List.drop_of_length_le (by omega)];rfl
 |n+1,i,k+1,hl,hk=>by
  rw[F29_l8,if_pos (by rw[size_bl];omega),byI_at (by omega),List.drop_eq_getElem_cons (by omega),List.all_cons]
  simp only[Option.bind_some,F51_t]
  have e1:IntKind.i64.wrap ((i:Int)+1)=((i+1:Nat):Int):=wrapN (by omega)
  rw[e1,F29_l8_t s hs n (i+1) k (by omega) (by omega)]
  show(if nb (wb (bl s)[i])=true then _ else _)=_
  cases hw:wb (bl s)[i]<;>simp[nb_not]
theorem F29_t(s:ByteArray):F29 s=some (keyB s):=by
 unfold F29 keyB keyL
 by_cases h0:s=⟨#[]⟩
 ·subst h0;rfl
 rw[if_neg h0]
 have hne:bl s≠[]:=fun e=>h0 (by rw[←lb_bl s,e];rfl)
 by_cases h1:40<(s.size:Int)
 ·rw[if_pos h1]
  have:¬(bl s).length≤40:=by rw[size_bl]at h1;omega
  simp[this]
 rw[if_neg h1]
 rw[size_bl]at h1
 match hb:bl s with
 |[]=>exact(hne hb).elim
 |c::r=>
  have hl:(bl s).length=r.length+1:=by rw[hb];rfl
  have hc:byI s 0=some (c.toNat:Int):=by
   have:=byI_at (b:=s) (i:=0) (by omega)
   rw[show((0:Nat):Int)=0 from rfl]at this
   rw[this];simp[hb]
  rw[hc]
  have h8:=F29_l8_t s (by omega) (bl s).length 0 1099511627776 (by omega) (by omega)
  rw[show((0:Nat):Int)=0 from rfl,List.drop_zero,hb]at h8
  simp only[Option.bind_some,h8]
  have hr:r.length≤39:=by omega
  by_cases g1:(c.toNat:Int)<97
  ·have:¬97≤c.toNat:=by omega
   simp[g1,this]
  ·have a1:97≤c.toNat:=by omega
   by_cases g2:122<(c.toNat:Int)
   ·have:¬c.toNat≤122:=by omega
    simp[g1,g2,this]
   ·have a2:c.toNat≤122:=by omega
    simp only[g1,g2,if_false,Option.bind_some,decide_false,Bool.false_eq_true,List.length_cons]
    cases hw:(c::r).all wb<;>simp[a1,a2,hr]
theorem F31_l8_e(s:ByteArray):∀(k:Nat) (i:Int),F31_l8 s k i=F29_l8 s k i
 |0,i=>by rw[F31_l8,F29_l8]
 |k+1,i=>by rw[F31_l8,F29_l8];simp only[F31_l8_e s k,F51_t,F52_t]
theorem F31_eq(s:ByteArray):F31 s=F29 s:=by
 unfold F31 F29
 rw[F31_l8_e]
 have e:((s.size:Int)<1)↔s=⟨#[]⟩:=by
  constructor
  ·intro h
   have:bl s=[]:=List.length_eq_zero_iff.1 (by rw[←size_bl];omega)
   rw[←lb_bl s,this];rfl
  ·intro h;subst h;decide
 by_cases h:s=⟨#[]⟩
 ·rw[if_pos h,if_pos (e.2 h)]<;>rfl
 ·rw[if_neg h,if_neg fun h'=>h (e.1 h')]<;>rfl
theorem F31_t(s:ByteArray):F31 s=some (keyB s):=(F31_eq s).trans (F29_t s)
theorem F30_l2_t(s:ByteArray)(hs:(bl s).length≤40):∀(n i k:Nat),(bl s).length=i+n→n<k→F30_l2 s k (i:Int)=some (if((bl s).drop i).all valc=true then .inr ()else .inl false)
 |0,i,k+1,hl,_=>by
  rw[F30_l2,if_neg (by rw[size_bl];omega),List.drop_of_length_le (by omega)];rfl
 |n+1,i,k+1,hl,hk=>by
  rw[F30_l2,if_pos (by rw[size_bl];omega),byI_at (by omega),List.drop_eq_getElem_cons (by omega),List.all_cons]
  simp only[Option.bind_some,F51_t]
  have e1:IntKind.i64.wrap ((i:Int)+1)=((i+1:Nat):Int):=wrapN (by omega)
  rw[e1,F30_l2_t s hs n (i+1) k (by omega) (by omega)]
  show((if nb (wb (bl s)[i])=true then some true else some (decide (((bl s)[i].toNat:Int)=47))).bind _)=_
  rw[show valc (bl s)[i]=(wb (bl s)[i]&& !decide ((bl s)[i].toNat=47))from rfl]
  have e2:(((bl s)[i].toNat:Int)=47)↔((bl s)[i].toNat=47):=by omega
  cases hw:wb (bl s)[i]<;>by_cases h47:(bl s)[i].toNat=47<;>simp[nb_not,e2,h47]
theorem F30_t(s:ByteArray):F30 s=some (valB s):=by
 unfold F30 valB valL
 by_cases h1:40<(s.size:Int)
 ·rw[if_pos h1]
  have:¬(bl s).length≤40:=by rw[size_bl]at h1;omega
  simp[this]
 rw[if_neg h1]
 rw[size_bl]at h1
 have h8:=F30_l2_t s (by omega) (bl s).length 0 1099511627776 (by omega) (by omega)
 rw[show((0:Nat):Int)=0 from rfl,List.drop_zero]at h8
 rw[h8]
 have a:(bl s).length≤40:=by omega
 cases hw:(bl s).all valc<;>simp[a]
theorem F32_l2_e(s:ByteArray):∀(k:Nat) (i:Int),F32_l2 s k i=F30_l2 s k i
 |0,i=>by rw[F32_l2,F30_l2]
 |k+1,i=>by rw[F32_l2,F30_l2];simp only[F32_l2_e s k,F51_t,F52_t]
theorem F32_t(s:ByteArray):F32 s=some (valB s):=by
 rw[←F30_t];unfold F32 F30;rw[F32_l2_e]<;>rfl
open Go Go.Fw
set_option maxRecDepth 100000
open Go Go.Fw
set_option maxRecDepth 100000
open Go Go.Fw
set_option maxRecDepth 100000
theorem dropW_len(p:UInt8→Bool)(r:List UInt8):(r.dropWhile p).length≤r.length:=(List.dropWhile_sublist p).length_le
def tok:List UInt8→Option (List ByteArray)
 |[]=>some []
 |c::r=>
  if c=32 then tok r
  else if wb c=true then(tok (r.dropWhile wb)).map (lb (c::r.takeWhile wb)::·)
  else if c=33∧r.head? =some 61 then(tok r.tail).map (lb [33,61]::·)
  else if c=40∨c=41∨c=44∨c=33∨c=61 then(tok r).map (lb [c]::·)else none
 termination_by l=>l.length
 decreasing_by
  ·simp
  ·have:=dropW_len wb r;simp;omega
  ·simp;omega
  ·simp
theorem subI_t{s:ByteArray}{i n:Nat}(h:i+n≤(bl s).length):subI s (i:Int) ((i+n:Nat):Int)=some (lb (((bl s).drop i).take n)):=by
 unfold subI
 rw[if_pos ⟨by omega,by omega,by rw[size_bl];omega⟩]
 congr 1
 rw[←lb_bl (s.extract _ _)]
 congr 1
 rw[show((i+n:Nat):Int).toNat=i+n from rfl,show((i:Nat):Int).toNat=i from rfl]
 simp[bl,ByteArray.data_extract,List.extract_eq_take_drop]
theorem F40_l8_t(s:ByteArray)(hs:(bl s).length≤100000)(i:Nat):∀(d n k:Nat),(bl s).length=i+n+d→d<k→F40_l8 (i:Int) s k (n:Int)=some ((n+(((bl s).drop (i+n)).takeWhile wb).length:Nat):Int)
 |0,n,k+1,hl,_=>by
  rw[F40_l8,show((i:Int)+(n:Int))=((i+n:Nat):Int)by omega,wrapI (by omega) (by omega),if_neg (by rw[size_bl];omega),List.drop_of_length_le (by omega)]
  rfl
 |d+1,n,k+1,hl,hk=>by
  have hlt:i+n<(bl s).length:=by omega
  rw[F40_l8,show((i:Int)+(n:Int))=((i+n:Nat):Int)by omega,wrapI (by omega) (by omega),if_pos (by rw[size_bl];omega),byI_at hlt,List.drop_eq_getElem_cons hlt]
  simp only[Option.bind_some,F51_t]
  have e1:IntKind.i64.wrap ((n:Int)+1)=((n+1:Nat):Int):=wrapN (by omega)
  rw[e1,F40_l8_t s hs i d (n+1) k (by omega) (by omega)]
  show(if wb (bl s)[i+n]=true then _ else _)=_
  rw[show i+(n+1)=i+n+1 from rfl]
  cases hw:wb (bl s)[i+n]
  ·simp only[List.takeWhile_cons,hw,Bool.false_eq_true,if_false,List.length_nil,Nat.add_zero]
  ·simp only[List.takeWhile_cons,hw,if_true,List.length_cons];congr 2;omega
theorem F44_l5_e(s:ByteArray)(i:Int):∀(k:Nat) (n:Int),F44_l5 i s k n=F40_l8 i s k n
 |0,n=>by rw[F44_l5,F40_l8]
 |k+1,n=>by rw[F44_l5,F40_l8];simp only[F44_l5_e s i k,F51_t,F52_t]
def mark(c:UInt8):Bool:=decide (c=40)||decide (c=41)||decide (c=44)||decide (c=33)||decide (c=61)
theorem cont_all:((List.range 256).all fun n=>decide (contI ⟨#[40,41,44,33,61]⟩ (Utf8.encode (IntKind.i32.wrap (n:Int)))=some (mark (UInt8.ofNat n))))=true:=by kernel_rfl
theorem cont_t(c:UInt8):contI ⟨#[40,41,44,33,61]⟩ (Utf8.encode (IntKind.i32.wrap (c.toNat:Int)))=some (mark c):=by
 have:=List.all_eq_true.1 cont_all c.toNat (List.mem_range.2 c.toNat_lt)
 simpa using this
theorem u8_nat{c:UInt8}{n:Nat}(hn:n<256):((c.toNat:Int)=(n:Int))↔c=UInt8.ofNat n:=by
 constructor
 ·intro h
  have:c.toNat=n:=by omega
  rw[←this];simp
 ·intro h;subst h;simp[Nat.mod_eq_of_lt hn]
theorem u8_32{c:UInt8}:((c.toNat:Int)=32)↔c=32:=u8_nat (n:=32) (by decide)
theorem u8_33{c:UInt8}:((c.toNat:Int)=33)↔c=33:=u8_nat (n:=33) (by decide)
theorem u8_61{c:UInt8}:((c.toNat:Int)=61)↔c=61:=u8_nat (n:=61) (by decide)
theorem u8_40{c:UInt8}:((c.toNat:Int)=40)↔c=40:=u8_nat (n:=40) (by decide)
theorem u8_41{c:UInt8}:((c.toNat:Int)=41)↔c=41:=u8_nat (n:=41) (by decide)
theorem u8_44{c:UInt8}:((c.toNat:Int)=44)↔c=44:=u8_nat (n:=44) (by decide)
theorem takeW_len(p:UInt8→Bool)(r:List UInt8):(r.takeWhile p).length≤r.length:=(List.takeWhile_sublist p).length_le
theorem drop_takeW(p:UInt8→Bool):∀l:List UInt8,l.drop (l.takeWhile p).length=l.dropWhile p
 |[]=>rfl
 |a::r=>by cases h:p a<;>simp[List.takeWhile_cons,List.dropWhile_cons,h,drop_takeW p r]
theorem take_takeW(p:UInt8→Bool):∀l:List UInt8,l.take (l.takeWhile p).length=l.takeWhile p
 |[]=>rfl
 |a::r=>by cases h:p a<;>simp[List.takeWhile_cons,h,take_takeW p r]
def tokR(acc:List ByteArray):Option (List ByteArray)→(((List ByteArray)×Bool) ⊕ (List ByteArray))
 |none=> .inl ([],false)
 |some ts=> .inr (acc++ts)
theorem tokR_map(acc:List ByteArray)(w:ByteArray)(o:Option (List ByteArray)):tokR acc (o.map (w::·))=tokR (acc++[w]) o:=by cases o<;>simp[tokR]
theorem F40_l1_t(s:ByteArray)(hs:(bl s).length≤100000):∀(d i k:Nat) (acc:List ByteArray),(bl s).length≤i+d→i≤(bl s).length→d<k→acc.length+d≤200000→F40_l1 s k acc (i:Int)=some (tokR acc (tok ((bl s).drop i)))
 |d,i,k+1,acc,hd,hi,hk,hacc=>by
  rw[F40_l1]
  by_cases hlt:i<(bl s).length
  ·obtain⟨d,rfl⟩:∃e,d=e+1:=⟨d-1,by omega⟩
   have hda:(bl s).drop i=(bl s)[i]::(bl s).drop (i+1):=List.drop_eq_getElem_cons hlt
   have IH:∀n acc',1≤n→i+n≤(bl s).length→acc'.length≤acc.length+1→F40_l1 s k acc' ((i+n:Nat):Int)=some (tokR acc' (tok ((bl s).drop (i+n)))):=fun n acc' h1 h2 h3=>F40_l1_t s hs d (i+n) k acc' (by omega) h2 (by omega) (by omega)
   have ap:∀w:ByteArray,apI acc [w]=some (acc++[w]):=fun w=>apI_t (by simp;omega)
   have wr:∀n:Nat,i+n≤(bl s).length→IntKind.i64.wrap ((i:Int)+(n:Int))=((i+n:Nat):Int):=fun n h=>by rw[wrapI (by omega) (by omega)];omega
   have w1:IntKind.i64.wrap ((i:Int)+1)=((i+1:Nat):Int):=wr 1 (by omega)
   rw[if_pos (by rw[size_bl];omega),byI_at hlt,hda,tok]
   generalize hc:(bl s)[i]=c at*
   simp only[Option.bind_some,F51_t,u8_32,u8_33]
   by_cases h32:c=32
   ·rw[if_pos h32,if_pos h32,w1,IH 1 acc (by omega) (by omega) (by omega)]
    rfl
   rw[if_neg h32,if_neg h32]
   show Option.bind (if wb c=true then _ else _) _=_
   by_cases hwb:wb c=true
   ·rw[if_pos hwb,if_pos hwb]
    have e8:=F40_l8_t s hs i ((bl s).length-i-1) 1 1099511627776 (by omega) (by omega)
    rw[show((1:Nat):Int)=1 from rfl]at e8
    have hn:=takeW_len wb ((bl s).drop (i+1))
    rw[List.length_drop]at hn
    have et:(bl s).drop (i+(1+(((bl s).drop (i+1)).takeWhile wb).length))=((bl s).drop (i+1)).dropWhile wb:=by
     rw[←drop_takeW wb ((bl s).drop (i+1)),List.drop_drop];congr 1;omega
    have ew:((bl s).drop i).take (1+(((bl s).drop (i+1)).takeWhile wb).length)=c::((bl s).drop (i+1)).takeWhile wb:=by
     rw[hda,Nat.add_comm,List.take_succ_cons,take_takeW]
    rw[e8]
    simp only[Option.bind_some]
    rw[wr _ (by omega),subI_t (by omega),ew]
    simp only[Option.bind_some,ap]
    rw[IH _ _ (by omega) (by omega) (by simp),et,tokR_map]
   rw[if_neg hwb,if_neg hwb]
   have one:∀o:Option Bool,o=some false→(o.bind fun o14=>(if o14=true then some (Sum.inr 2)else(contI ((⟨#[40,41,44,33,61]⟩:ByteArray)) ((Utf8.encode ((IntKind.i32.wrap (c.toNat:Int)))))).bind fun t19=>(if(nb t19)=true then((some (([],false))).map Sum.inl).map Sum.inl else some (Sum.inr 1)):Option ((((List ByteArray)×Bool) ⊕ ((List ByteArray))) ⊕ (Int))))=some (if mark c=true then .inr 1 else .inl (.inl ([],false))):=by
    rintro _ rfl
    simp only[Option.bind_some,Bool.false_eq_true,if_false,cont_t]
    cases mark c<;>simp[nb_not]
   have hmark:(c=40∨c=41∨c=44∨c=33∨c=61)↔mark c=true:=by simp[mark,or_assoc]
   have fin:((some (if mark c=true then Sum.inr 1 else Sum.inl (Sum.inl ([],false))):Option ((((List ByteArray)×Bool) ⊕ ((List ByteArray))) ⊕ (Int))).bind fun o3=>match o3 with|Sum.inl f=>some f|Sum.inr po3=>(subI s (i:Int) ((IntKind.i64.wrap ((i:Int)+po3)))).bind fun s21=>(apI acc ([s21])).bind fun a22=>F40_l1 s k a22 ((IntKind.i64.wrap ((i:Int)+po3))))=some (tokR acc (if c=40∨c=41∨c=44∨c=33∨c=61 then(tok ((bl s).drop (i+1))).map (lb [c]::·)else none)):=by
    simp only[hmark]
    cases hm:mark c
    ·rfl
    ·simp only[if_true,Option.bind_some,w1]
     rw[subI_t (n:=1) (by omega),hda]
     simp only[Option.bind_some,ap,List.take_succ_cons,List.take_zero]
     rw[IH 1 _ (by omega) (by omega) (by simp),tokR_map]
   by_cases h33:c=33
   ·by_cases h61:((bl s).drop (i+1)).head? =some 61
    ·have hl1:i+1<(bl s).length:=by
      rcases Nat.lt_or_ge (i+1) (bl s).length with h|h
      ·exact h
      ·rw[List.drop_of_length_le h]at h61;cases h61
     have hg:(bl s)[i+1]=61:=by
      rw[List.drop_eq_getElem_cons hl1]at h61;simpa only[List.head?_cons,Option.some.injEq]using h61
     have hd1:(bl s).drop (i+1)=61::(bl s).drop (i+2):=by rw[List.drop_eq_getElem_cons hl1,hg]
     rw[if_pos h33,w1,if_pos (by rw[size_bl];omega),byI_at hl1,hg,if_pos ⟨h33,h61⟩]
     simp only[Option.bind_some,u8_61,decide_true,if_true]
     rw[show((2:Int))=((2:Nat):Int)from rfl,wr 2 (by omega),subI_t (n:=2) (by omega),hda,hd1]
     simp only[Option.bind_some,ap,List.take_succ_cons,List.take_zero,List.tail_cons]
     rw[IH 2 _ (by omega) (by omega) (by simp),←h33,tokR_map]
    ·rw[if_pos h33,if_neg (show¬(c=33∧_)from fun h=>h61 h.2)]
     have e0:(if IntKind.i64.wrap ((i:Int)+1)<(s.size:Int)then(byI s (IntKind.i64.wrap ((i:Int)+1))).bind fun y17=>some (decide (y17=61))else some false)=some false:=by
      rw[w1]
      by_cases hl1:i+1<(bl s).length
      ·rw[if_pos (by rw[size_bl];omega),byI_at hl1]
       rw[List.drop_eq_getElem_cons hl1]at h61
       have:¬(bl s)[i+1]=61:=by simpa only[List.head?_cons,Option.some.injEq]using h61
       simp[u8_61,this]
      ·rw[if_neg (by rw[size_bl];omega)]
     rw[one _ e0];exact fin
   ·rw[if_neg h33,if_neg (show¬(c=33∧_)from fun h=>h33 h.1),one _ rfl];exact fin
  ·have:i=(bl s).length:=by omega
   rw[if_neg (by rw[size_bl];omega),List.drop_of_length_le (by omega),tok]
   simp[tokR]
def tokB(o:Option (List ByteArray)):List ByteArray×Bool:=match o with|none=>([],false)|some ts=>(ts,true)
theorem F40_t(s:ByteArray)(hs:(bl s).length≤100000):F40 s=some (tokB (tok (bl s))):=by
 unfold F40
 have:=F40_l1_t s hs (bl s).length 0 1099511627776 [] (by omega) (by omega) (by omega) (by simp;omega)
 rw[show((0:Nat):Int)=0 from rfl,List.drop_zero]at this
 rw[this]
 cases tok (bl s)<;>rfl
open Go Go.Fw
set_option maxRecDepth 100000
theorem tok_len:∀(n:Nat) (l:List UInt8),l.length≤n→∀ts,tok l=some ts→ts.length≤l.length
 |n,[],_,ts,h=>by rw[tok]at h;cases h;simp
 |n+1,c::r,hn,ts,h=>by
  simp only[List.length_cons]at hn
  rw[tok]at h
  split at h
  ·have:=tok_len n r (by omega) ts h;simp;omega
  split at h
  ·obtain⟨t2,h2,rfl⟩:=Option.map_eq_some_iff.1 h
   have:=dropW_len wb r
   have:=tok_len n (r.dropWhile wb) (by omega) t2 h2;simp;omega
  split at h
  ·obtain⟨t2,h2,rfl⟩:=Option.map_eq_some_iff.1 h
   have:=tok_len n r.tail (by simp;omega) t2 h2;simp at this⊢;omega
  split at h
  ·obtain⟨t2,h2,rfl⟩:=Option.map_eq_some_iff.1 h
   have:=tok_len n r (by omega) t2 h2;simp;omega
  ·cases h
def acc(x:ByteArray):List ByteArray→List ByteArray×Bool
 |[]=>([],false)
 |t::r=>if t=x then(r,true)else(t::r,false)
theorem acc_len(x:ByteArray):∀ts,(acc x ts).1.length≤ts.length
 |[]=>Nat.le_refl _
 |t::r=>by simp only[acc];split<;>simp
theorem sl1{α:Type}(t:α)(r:List α):slI (t::r) 1 (((t::r).length:Nat):Int)=some r:=by
 rw[show(1:Int)=((1:Nat):Int)from rfl,slI_t (by simp) (Nat.le_refl _)];simp
theorem F41_t(x:ByteArray)(b:Parser):F41 x b=some (acc x b.tokens):=by
 unfold F41
 obtain⟨ts,f⟩:=b
 cases ts with
 |nil=>simp[acc]
 |cons t r=>
  rw[if_neg (by simp;omega)]
  simp only[show rdI (t::r) 0=some t from rfl,Option.bind_some,sl1,acc]
  by_cases h:t=x<;>simp[h]
def isW(t:ByteArray):Bool:=match bl t with|[]=>false|c::_=>wb c
def wordP:List ByteArray→List ByteArray×ByteArray
 |[]=>([],⟨#[]⟩)
 |t::r=>if isW t=true then(r,t)else(t::r,⟨#[]⟩)
theorem wordP_len:∀ts,(wordP ts).1.length≤ts.length
 |[]=>Nat.le_refl _
 |t::r=>by simp only[wordP];split<;>simp
theorem emp_iff(t:ByteArray):t=⟨#[]⟩↔bl t=[]:=⟨fun h=>by rw[h];rfl,fun h=>by rw[←lb_bl t,h];rfl⟩
theorem byI0{t:ByteArray}{c:UInt8}{r:List UInt8}(h:bl t=c::r):byI t 0=some (c.toNat:Int):=by
 have:=byI_at (b:=t) (i:=0) (by rw[h];simp)
 rw[show((0:Nat):Int)=0 from rfl]at this
 rw[this];simp[h]
theorem F60_t(b:Parser):F60 b=some (wordP b.tokens):=by
 unfold F60 F73
 obtain⟨ts,f⟩:=b
 cases ts with
 |nil=>rfl
 |cons t r=>
  rw[if_neg (by simp;omega)]
  simp only[show rdI (t::r) 0=some t from rfl,Option.bind_some,sl1,wordP,F51_t]
  by_cases h:t=⟨#[]⟩
  ·have:isW t=false:=by unfold isW;rw[(emp_iff t).1 h]
   simp[h]
   rw[h]at this
   simp[this]
  ·rw[if_neg h]
   cases hb:bl t with
   |nil=>exact(h ((emp_iff t).2 hb)).elim
   |cons c l=>
    have:isW t=wb c:=by unfold isW;rw[hb]
    rw[byI0 hb,this]
    simp only[Option.bind_some]
    show(if nb (wb c)=true then _ else _)=_
    cases wb c<;>simp[nb_not]
def lsP(ts out:List ByteArray):List ByteArray×List ByteArray:=
 match ts with
 |[]=>([],out)
 |t::r=>if t=⟨#[44]⟩then lsP (wordP r).1 (out++[(wordP r).2])else(t::r,out)
 termination_by ts.length
 decreasing_by have:=wordP_len r;simp;omega
theorem lsP_len:∀(n:Nat) (ts out:List ByteArray),ts.length≤n→(lsP ts out).1.length≤ts.length∧(lsP ts out).2.length≤out.length+ts.length
 |n,[],out,_=>by rw[lsP];simp
 |n+1,t::r,out,h=>by
  rw[lsP]
  simp only[List.length_cons]at h
  split
  ·have h1:=wordP_len r
   have:=lsP_len n (wordP r).1 (out++[(wordP r).2]) (by omega)
   simp at this⊢;omega
  ·simp
theorem F61_l4_t(f:Bool):∀(n k:Nat) (ts out:List ByteArray),ts.length≤n→n<k→out.length+n≤200000→F61_l4 ⟨[],f⟩ k ts out=some (lsP ts out):=by
 intro n
 induction n with
 |zero=>
  intro k ts out h1 h2 h3
  obtain⟨k,rfl⟩:∃m,k=m+1:=⟨k-1,by omega⟩
  have:ts=[]:=List.length_eq_zero_iff.1 (by omega)
  subst this
  rw[F61_l4,F41_t,lsP];rfl
 |succ n IH=>
  intro k ts out h1 h2 h3
  obtain⟨k,rfl⟩:∃m,k=m+1:=⟨k-1,by omega⟩
  rw[F61_l4,F41_t]
  cases ts with
  |nil=>rw[lsP];rfl
  |cons t r=>
   simp only[List.length_cons]at h1
   rw[lsP]
   simp only[Option.bind_some,acc]
   by_cases h:t=⟨#[44]⟩
   ·rw[if_pos h,if_pos h]
    have:=wordP_len r
    simp only[if_true,F60_t,Option.bind_some]
    rw[apI_t (by simp;omega)]
    exact IH k _ _ (by omega) (by omega) (by simp;omega)
   ·rw[if_neg h,if_neg h];rfl
theorem F61_l4_b(ts0:List ByteArray)(f:Bool):∀(k:Nat) (ts out:List ByteArray),F61_l4 ⟨ts0,f⟩ k ts out=F61_l4 ⟨[],f⟩ k ts out
 |0,ts,out=>by rw[F61_l4,F61_l4]
 |k+1,ts,out=>by rw[F61_l4,F61_l4];simp only[F61_l4_b ts0 f k]
def norm(l:List ByteArray):List ByteArray:=compL (sortL l)
def listP(ts:List ByteArray):Option (List ByteArray×List ByteArray):=
 match acc ⟨#[40]⟩ ts with
 |(_,false)=>none
 |(t1,true)=>
  let w:=wordP t1
  let l:=lsP w.1 [w.2]
  match acc ⟨#[41]⟩ l.1 with
  |(_,false)=>none
  |(t2,true)=>some (t2,norm l.2)
def relL(o:Option (List ByteArray×List ByteArray))(r:Parser×List ByteArray):Prop:=
 match o with
 |none=>r.1.failed=true
 |some (ts,l)=>r=(⟨ts,false⟩,l)
theorem sort_t{l:List ByteArray}(h:l.length≤4294967290):sortI l=some (sortL l):=if_pos h
theorem comp_t{l:List ByteArray}(h:l.length≤4294967290):compI l=some (compL l):=if_pos h
theorem F61_t(ts:List ByteArray)(h:ts.length≤100000):∃r,F61 ⟨ts,false⟩=some r∧relL (listP ts) r:=by
 unfold F61 listP
 rw[F41_t]
 simp only[Option.bind_some]
 have ha:=acc_len ⟨#[40]⟩ ts
 generalize acc ⟨#[40]⟩ ts=a at ha⊢
 obtain⟨t1,b⟩:=a
 cases b with
 |false=>exact⟨_,rfl,rfl⟩
 |true=>
  have hw:=wordP_len t1
  simp only[nb_not,Bool.not_true,Bool.false_eq_true,if_false,F60_t,Option.bind_some]
  generalize wordP t1=w at hw⊢
  simp only at ha hw
  rw[F61_l4_b,F61_l4_t false t1.length 1099511627776 w.1 [w.2] (by omega) (by omega) (by simp;omega)]
  have hl:=lsP_len t1.length w.1 [w.2] hw
  generalize lsP w.1 [w.2]=l at hl⊢
  simp only[Option.bind_some,F41_t]
  simp only[List.length_cons,List.length_nil]at hl
  have e:(sortI l.2).bind (fun t12=>compI t12)=some (norm l.2):=by
   rw[sort_t (by omega),Option.bind_some,comp_t (by rw[sortL_len];omega)];rfl
  have es:sortI l.2=some (sortL l.2):=sort_t (by omega)
  have ec:compI (sortL l.2)=some (norm l.2):=comp_t (by rw[sortL_len];omega)
  generalize acc ⟨#[41]⟩ l.1=c
  obtain⟨t2,b2⟩:=c
  cases b2 with
  |false=>simp only[Bool.not_false,if_true,Option.bind_some,es,ec];exact⟨_,rfl,rfl⟩
  |true=>simp only[Bool.not_true,Bool.false_eq_true,if_false,Option.bind_some,es,ec];exact⟨_,rfl,rfl⟩
def opP(k:ByteArray):List ByteArray→Option (List ByteArray×Requirement)
 |[]=>some ([],⟨k,3,[]⟩)
 |t::r=>
  if t=⟨#[61]⟩then some ((wordP r).1,⟨k,1,[(wordP r).2]⟩)
  else if t=⟨#[33,61]⟩then some ((wordP r).1,⟨k,2,[(wordP r).2]⟩)
  else if t=⟨#[105,110]⟩then(listP r).map fun x=>(x.1,⟨k,1,x.2⟩)
  else if t=⟨#[110,111,116,105,110]⟩then(listP r).map fun x=>(x.1,⟨k,2,x.2⟩)
  else some (t::r,⟨k,3,[]⟩)
def reqP(ts:List ByteArray):Option (List ByteArray×Requirement):=
 let a:=acc ⟨#[33]⟩ ts
 let w:=wordP a.1
 if w.2=⟨#[]⟩then none
 else if a.2=true then some (w.1,⟨w.2,4,[]⟩)
 else opP w.2 w.1
def relQ(o:Option (List ByteArray×Requirement))(r:Parser×ByteArray×Int×List ByteArray):Prop:=
 match o with
 |none=>r.1.failed=true
 |some (ts,q)=>r=(⟨ts,false⟩,q.Key,q.Op,q.Values)
theorem F42_t(ts:List ByteArray)(h:ts.length≤100000):∃r,F42 ⟨ts,false⟩=some r∧relQ (reqP ts) r:=by
 unfold F42 reqP
 simp only[F41_t,F60_t,Option.bind_some]
 have ha:=acc_len ⟨#[33]⟩ ts
 generalize acc ⟨#[33]⟩ ts=a at ha⊢
 have hw:=wordP_len a.1
 generalize wordP a.1=w at hw⊢
 by_cases h0:w.2=⟨#[]⟩
 ·rw[if_pos h0,if_pos h0];exact⟨_,rfl,rfl⟩
 rw[if_neg h0,if_neg h0]
 by_cases h1:a.2=true
 ·rw[if_pos h1,if_pos h1];exact⟨_,rfl,rfl⟩
 rw[if_neg h1,if_neg h1]
 obtain⟨u,k⟩:=w
 simp only at hw h0⊢
 cases u with
 |nil=>simp only[acc,opP,Bool.false_eq_true,if_false];exact⟨_,rfl,rfl⟩
 |cons t r=>
  simp only[List.length_cons]at hw
  have li:∀(op:Int),∃x,((F61 ⟨r,false⟩).bind fun t13=>some (((⟨(t13.1).tokens,(t13.1).failed⟩:Parser),k,op,t13.2)))=some x∧relQ ((listP r).map fun x=>(x.1,⟨k,op,x.2⟩)) x:=fun op=>by
   obtain⟨x,hx,hr⟩:=F61_t r (by omega)
   rw[hx]
   refine⟨_,rfl,?_⟩
   cases hl:listP r with
   |none=>rw[hl]at hr;exact hr
   |some y=>
    rw[hl]at hr
    obtain⟨y1,y2⟩:=y
    have hr':x=(⟨y1,false⟩,y2):=hr
    subst hr'
    exact rfl
  simp only[acc,opP]
  by_cases g1:t=⟨#[61]⟩
  ·simp only[if_pos g1,if_true];exact⟨_,rfl,rfl⟩
  simp only[if_neg g1,Bool.false_eq_true,if_false,acc]
  by_cases g2:t=⟨#[33,61]⟩
  ·simp only[if_pos g2,if_true];exact⟨_,rfl,rfl⟩
  simp only[if_neg g2,Bool.false_eq_true,if_false,acc]
  by_cases g3:t=⟨#[105,110]⟩
  ·simp only[if_pos g3,if_true];exact li 1
  simp only[if_neg g3,Bool.false_eq_true,if_false,acc]
  by_cases g4:t=⟨#[110,111,116,105,110]⟩
  ·simp only[if_pos g4,if_true];exact li 2
  simp only[if_neg g4,Bool.false_eq_true,if_false]
  exact⟨_,rfl,rfl⟩
theorem listP_len{ts t2 l:List ByteArray}(h:listP ts=some (t2,l)):t2.length≤ts.length:=by
 unfold listP at h
 have h1:=acc_len ⟨#[40]⟩ ts
 split at h
 ·cases h
 ·rename_i t1 e
  rw[e]at h1
  have h2:=wordP_len t1
  have h3:=(lsP_len _ (wordP t1).1 [(wordP t1).2] (Nat.le_refl _)).1
  have h4:=acc_len ⟨#[41]⟩ (lsP (wordP t1).1 [(wordP t1).2]).1
  simp only at h
  split at h
  ·cases h
  ·rename_i t3 e3
   rw[e3]at h4
   simp only[Option.some.injEq,Prod.mk.injEq]at h
   obtain⟨rfl,_⟩:=h
   simp only at h1 h4;omega
theorem opP_len{k:ByteArray}{ts t2:List ByteArray}{q:Requirement}(h:opP k ts=some (t2,q)):t2.length≤ts.length:=by
 cases ts with
 |nil=>simp only[opP,Option.some.injEq,Prod.mk.injEq]at h;rw[←h.1];exact Nat.le_refl _
 |cons t r=>
  have:=wordP_len r
  simp only[opP]at h
  split at h
  ·simp only[Option.some.injEq,Prod.mk.injEq]at h;rw[←h.1];simp;omega
  split at h
  ·simp only[Option.some.injEq,Prod.mk.injEq]at h;rw[←h.1];simp;omega
  split at h
  ·obtain⟨⟨y1,y2⟩,hy,e⟩:=Option.map_eq_some_iff.1 h
   simp only[Prod.mk.injEq]at e
   have:=listP_len hy;rw[←e.1];simp;omega
  split at h
  ·obtain⟨⟨y1,y2⟩,hy,e⟩:=Option.map_eq_some_iff.1 h
   simp only[Prod.mk.injEq]at e
   have:=listP_len hy;rw[←e.1];simp;omega
  ·simp only[Option.some.injEq,Prod.mk.injEq]at h;rw[←h.1];exact Nat.le_refl _
theorem wordP_lt{ts:List ByteArray}(h:(wordP ts).2≠⟨#[]⟩):(wordP ts).1.length<ts.length:=by
 cases ts with
 |nil=>exact(h rfl).elim
 |cons t r=>
  simp only[wordP]at h⊢
  split
  ·simp
  ·rename_i h1;rw[if_neg h1]at h;exact(h rfl).elim
theorem reqP_len{ts t2:List ByteArray}{q:Requirement}(h:reqP ts=some (t2,q)):t2.length<ts.length:=by
 unfold reqP at h
 have h1:=acc_len ⟨#[33]⟩ ts
 simp only at h
 split at h
 ·cases h
 rename_i h0
 have:=wordP_lt h0
 split at h
 ·simp only[Option.some.injEq,Prod.mk.injEq]at h;rw[←h.1];omega
 ·have:=opP_len h;omega
def selP:Nat→List ByteArray→Option (List Requirement)
 |0,_=>none
 |n+1,ts=>match reqP ts with
  |none=>none
  |some (t2,q)=>match t2 with
   |[]=>some [q]
   |t::r=>if t=⟨#[44]⟩then(selP n r).map (q::·)else none
def relS(out:List Requirement)(o:Option (List Requirement))(r:List Requirement×Parser):Prop:=
 match o with
 |none=>r.2.failed=true∨0<r.2.tokens.length
 |some l=>r=(out++l,⟨[],false⟩)
theorem F24_stop(k:Nat)(out:List Requirement)(ts:List ByteArray)(f m:Bool)(h:f=true∨m=false):F24_l4 (k+1) out ts f m=some (out,⟨ts,f⟩):=by
 rw[F24_l4]
 rcases h with rfl|rfl
 ·cases m<;>simp[nb_not]
 ·simp
theorem F24_l4_t:∀(n k:Nat) (out:List Requirement) (ts:List ByteArray),ts.length≤n→n≤100000→n+1<k→out.length+n≤200000→∃r,F24_l4 k out ts false true=some r∧relS out (selP (n+1) ts) r:=by
 intro n
 induction n with
 |zero=>
  intro k out ts h1 _ h2 h3
  obtain⟨k,rfl⟩:∃m,k=m+2:=⟨k-2,by omega⟩
  have:ts=[]:=List.length_eq_zero_iff.1 (by omega)
  subst this
  obtain⟨r,hr,hq⟩:=F42_t [] (by simp)
  have hq':r.1.failed=true:=hq
  rw[F24_l4]
  simp only[if_true,nb_not,Bool.not_false,Option.bind_some,hr]
  rw[apI_t (by simp;omega)]
  simp only[Option.bind_some,F41_t]
  rw[F24_stop _ _ _ _ _ (.inl hq')]
  exact⟨_,rfl,.inl hq'⟩
 |succ n IH=>
  intro k out ts h1 hn h2 h3
  obtain⟨k,rfl⟩:∃m,k=m+2:=⟨k-2,by omega⟩
  obtain⟨r,hr,hq⟩:=F42_t ts (by omega)
  rw[F24_l4,selP]
  simp only[if_true,nb_not,Bool.not_false,Option.bind_some,hr]
  rw[apI_t (by simp;omega)]
  simp only[Option.bind_some,F41_t]
  cases hp:reqP ts with
  |none=>
   rw[hp]at hq
   have hq':r.1.failed=true:=hq
   rw[F24_stop _ _ _ _ _ (.inl hq')]
   exact⟨_,rfl,.inl hq'⟩
  |some y=>
   obtain⟨t2,q⟩:=y
   rw[hp]at hq
   have hq':r=(⟨t2,false⟩,q.Key,q.Op,q.Values):=hq
   subst hq'
   have hl:=reqP_len hp
   simp only
   cases t2 with
   |nil=>
    simp only[acc]
    rw[F24_stop _ _ _ _ _ (.inr rfl)]
    exact⟨_,rfl,rfl⟩
   |cons t r2=>
    simp only[List.length_cons]at hl
    simp only[acc]
    by_cases hc:t=⟨#[44]⟩
    ·simp only[if_pos hc]
     obtain⟨x,hx,hs⟩:=IH (k+1) (out++[q]) r2 (by omega) (by omega) (by omega) (by simp;omega)
     refine⟨x,hx,?_⟩
     cases hsp:selP (n+1) r2 with
     |none=>rw[hsp]at hs;exact hs
     |some l=>
      rw[hsp]at hs
      have hs':x=(out++[q]++l,⟨[],false⟩):=hs
      subst hs'
      show _=(out++(q::l),_)
      simp
    ·simp only[if_neg hc]
     rw[F24_stop _ _ _ _ _ (.inr rfl)]
     exact⟨_,rfl,.inr (by simp)⟩
def chk(q:Requirement):Int:=if(keyB q.Key&&q.Values.all valB)=true then(if 64<q.Values.length then 4 else 0)else 1
def chkA:List Requirement→Int
 |[]=>0
 |q::r=>if chk q=0 then chkA r else chk q
theorem F76_l1_t:∀(l:List ByteArray) (i:Nat),∃r,F76_l1 l i=some r∧(l.all valB=true→r= .inr ())∧(l.all valB=false→∃j:Nat,r= .inl (j:Int))
 |[],i=>⟨_,by rw[F76_l1],fun _=>rfl,fun h=>by cases h⟩
 |x::l,i=>by
  rw[F76_l1]
  simp only[F63,F30_t,Option.bind_some,nb_not]
  cases hv:valB x
  ·refine⟨_,rfl,fun h=>by simp[hv]at h,fun _=>⟨i,rfl⟩⟩
  ·obtain⟨r,h1,h2,h3⟩:=F76_l1_t l (i+1)
   exact⟨r,by simpa using h1,fun h=>h2 (by simpa[hv]using h),fun h=>h3 (by simpa[hv]using h)⟩
theorem F62_t(l:List ByteArray)(h:l.length≤4294967290):F62 l=some (!l.all valB):=by
 unfold F62 F76
 rw[ck_t ⟨by omega,h⟩,Option.bind_some]
 obtain⟨r,h1,h2,h3⟩:=F76_l1_t l 0
 rw[h1]
 cases ha:l.all valB
 ·obtain⟨j,rfl⟩:=h3 ha
  simp
 ·rw[h2 ha];rfl
theorem F43_t(q:Requirement)(h:q.Values.length≤4294967290):F43 q=some (chk q):=by
 unfold F43 chk
 simp only[F29_t,Option.bind_some,nb_not]
 cases hk:keyB q.Key
 ·simp
 ·rw[F62_t _ h]
  cases hv:q.Values.all valB
  ·simp
  ·by_cases h6:64<q.Values.length
   ·have:(64:Int)<q.Values.length:=by omega
    simp[this,h6]
   ·have:¬(64:Int)<q.Values.length:=by omega
    simp[this,h6]
theorem F24_l14_t(o:List Requirement×Parser)(ho:∀q∈o.1,q.Values.length≤4294967290):∀(n i:Nat),o.1.length=i+n→F24_l14 o (o.1.drop i) i=some (if chkA (o.1.drop i)=0 then .inr ()else .inl ([],chkA (o.1.drop i)))
 |0,i,h=>by rw[List.drop_of_length_le (by omega),F24_l14];rfl
 |n+1,i,h=>by
  have hlt:i<o.1.length:=by omega
  rw[List.drop_eq_getElem_cons hlt,F24_l14,rdI_at hlt,Option.bind_some,F43_t _ (ho _ (List.getElem_mem hlt)),Option.bind_some,chkA]
  by_cases h0:chk o.1[i]=0
  ·rw[if_neg (by simp[h0]),F24_l14_t o ho n (i+1) (by omega),if_pos h0]
  ·rw[if_pos h0,if_neg h0,if_neg h0];rfl
def selT(ts:List ByteArray):Option (List Requirement):=if ts=[]then some []else selP (ts.length+1) ts
def parseL(s:ByteArray):List Requirement×Int:=
 if 20000<s.size then([],4)else
 match tok (bl s)with
 |none=>([],2)
 |some ts=>match selT ts with
  |none=>([],2)
  |some l=>if chkA l=0 then(if 16<l.length then([],4)else(l,0))else([],chkA l)
theorem norm_len(l:List ByteArray):(norm l).length≤l.length:=by
 have:=compL_len (sortL l);rw[sortL_len]at this;exact this
theorem listP_vals{ts t2 l:List ByteArray}(h:listP ts=some (t2,l)):l.length≤ts.length+1:=by
 unfold listP at h
 have h1:=acc_len ⟨#[40]⟩ ts
 split at h
 ·cases h
 ·rename_i t1 e
  rw[e]at h1
  have h2:=wordP_len t1
  have h3:=(lsP_len _ (wordP t1).1 [(wordP t1).2] (Nat.le_refl _)).2
  simp only at h
  split at h
  ·cases h
  ·rename_i t3 e3
   simp only[Option.some.injEq,Prod.mk.injEq]at h
   rw[←h.2]
   have:=norm_len (lsP (wordP t1).1 [(wordP t1).2]).2
   simp only[List.length_cons,List.length_nil]at h1 h3;omega
theorem opP_vals{k:ByteArray}{ts t2:List ByteArray}{q:Requirement}(h:opP k ts=some (t2,q)):q.Values.length≤ts.length+1:=by
 cases ts with
 |nil=>simp only[opP,Option.some.injEq,Prod.mk.injEq]at h;rw[←h.2];simp
 |cons t r=>
  simp only[opP]at h
  split at h
  ·simp only[Option.some.injEq,Prod.mk.injEq]at h;rw[←h.2];simp
  split at h
  ·simp only[Option.some.injEq,Prod.mk.injEq]at h;rw[←h.2];simp
  split at h
  ·obtain⟨⟨y1,y2⟩,hy,e⟩:=Option.map_eq_some_iff.1 h
   simp only[Prod.mk.injEq]at e
   have:=listP_vals hy;rw[←e.2];simp;omega
  split at h
  ·obtain⟨⟨y1,y2⟩,hy,e⟩:=Option.map_eq_some_iff.1 h
   simp only[Prod.mk.injEq]at e
   have:=listP_vals hy;rw[←e.2];simp;omega
  ·simp only[Option.some.injEq,Prod.mk.injEq]at h;rw[←h.2];simp
theorem reqP_vals{ts t2:List ByteArray}{q:Requirement}(h:reqP ts=some (t2,q)):q.Values.length≤ts.length+1:=by
 unfold reqP at h
 have h1:=acc_len ⟨#[33]⟩ ts
 have h2:=wordP_len (acc ⟨#[33]⟩ ts).1
 simp only at h
 split at h
 ·cases h
 split at h
 ·simp only[Option.some.injEq,Prod.mk.injEq]at h;rw[←h.2];simp
 ·have:=opP_vals h;omega
theorem selP_spec:∀(n:Nat) (ts:List ByteArray) (l:List Requirement),selP n ts=some l→l.length≤ts.length∧∀q∈l,q.Values.length≤ts.length+1
 |n+1,ts,l,h=>by
  rw[selP]at h
  split at h
  ·cases h
  ·rename_i t2 q hq
   have hl:=reqP_len hq
   have hv:=reqP_vals hq
   split at h
   ·cases h;simp;omega
   ·rename_i t r
    split at h
    ·obtain⟨l2,h2,rfl⟩:=Option.map_eq_some_iff.1 h
     have:=selP_spec n r l2 h2
     simp only[List.length_cons]at hl
     refine⟨by simp;omega,fun x hx=>?_⟩
     rcases List.mem_cons.1 hx with rfl|hx
     ·exact hv
     ·have:=this.2 x hx;omega
    ·cases h
theorem F24_t(s:ByteArray):F24 s=some (parseL s):=by
 unfold F24 parseL
 by_cases h0:20000<s.size
 ·rw[if_pos h0,if_pos (by omega)]
 rw[if_neg h0,if_neg (by omega)]
 have hs:(bl s).length≤20000:=by rw[←size_bl];omega
 rw[F40_t s (by omega),Option.bind_some]
 cases ht:tok (bl s)with
 |none=>rfl
 |some ts=>
  have hl:=tok_len _ _ (Nat.le_refl _) ts ht
  rw[show tokB (some ts)=(ts,true)from rfl]
  simp only[nb_not,Bool.not_true,Bool.false_eq_true,if_false]
  by_cases he:ts=[]
  ·subst he
   rw[show(decide ((0:Int)<(([]:List ByteArray).length:Int)))=false from rfl,F24_stop 1099511627775 [] [] false false (.inr rfl)]
   rfl
  have hp:(0:Int)<(ts.length:Int):=by
   have:ts.length≠0:=fun h=>he (List.length_eq_zero_iff.1 h)
   omega
  rw[decide_eq_true hp]
  obtain⟨r,hr,hq⟩:=F24_l4_t ts.length 1099511627776 [] ts (Nat.le_refl _) (by omega) (by omega) (by simp;omega)
  rw[hr,Option.bind_some]
  simp only[selT,if_neg he]
  cases hp:selP (ts.length+1) ts with
  |none=>
   rw[hp]at hq
   have hq':r.2.failed=true∨0<r.2.tokens.length:=hq
   rcases hq' with hq|hq
   ·simp[hq]
   ·have:(0:Int)<(r.2.tokens.length:Int):=by omega
    cases hf:r.2.failed
    ·simp only[Bool.false_eq_true,if_false,Option.bind_some,decide_eq_true this,if_true]
    ·simp
  |some l=>
   rw[hp]at hq
   have hq':r=([]++l,⟨[],false⟩):=hq
   subst hq'
   have hsp:=selP_spec _ _ _ hp
   simp only[List.nil_append,Bool.false_eq_true,if_false,List.length_nil,Option.bind_some]
   rw[show(decide ((0:Int)<((0:Nat):Int)))=false from rfl]
   simp only[Bool.false_eq_true,if_false]
   rw[ck_t ⟨by omega,by omega⟩,Option.bind_some]
   have e:=F24_l14_t (l,⟨[],false⟩) (fun q hq=>by have:=hsp.2 q hq;omega) l.length 0 (by simp)
   simp only[List.drop_zero]at e
   rw[e]
   by_cases hc:chkA l=0
   ·rw[if_pos hc,if_pos hc]
    by_cases h16:16<l.length
    ·have:(16:Int)<l.length:=by omega
     simp[this,h16]
    ·have:¬(16:Int)<l.length:=by omega
     simp[this,h16]
   ·rw[if_neg hc,if_neg hc];rfl
open Go Go.Fw
set_option maxRecDepth 100000
theorem bless_lt:∀x y:List UInt8,Op.bytesLess x y=decide (x<y)
 |[],[]=>by simp[Op.bytesLess]
 |[],b::y=>by simp[Op.bytesLess]
 |a::x,[]=>by simp[Op.bytesLess]
 |a::x,b::y=>by
  rw[Op.bytesLess,bless_lt x y,Bool.eq_iff_iff]
  simp only[Bool.or_eq_true,decide_eq_true_eq,Bool.and_eq_true,beq_iff_eq,List.cons_lt_cons_iff]
theorem toList_bl(b:ByteArray):b.toList=bl b:=by
 rw[show bl b=b.data.toList from rfl];exact Go.ByteArray.toList_eq b
theorem lt_bl(a b:ByteArray):lt a b↔bl a<bl b:=by
 unfold lt;rw[toList_bl,toList_bl,bless_lt];simp
theorem sortL_perm(xs:List ByteArray):(sortL xs).Perm xs:=by
 have h:=(List.mergeSort_perm (xs.map bl) (fun x y=>decide (x≤y))).map lb
 rw[List.map_map]at h
 have e:xs.map (lb∘bl)=xs:=by
  have:(lb∘bl)=id:=funext lb_bl
  rw[this,List.map_id]
 rw[e]at h;rw[sortL_eq];exact h
theorem sortL_mem(z:ByteArray)(xs:List ByteArray):z∈sortL xs↔z∈xs:=(sortL_perm xs).mem_iff
theorem sortL_pw(xs:List ByteArray):(sortL xs).Pairwise fun a b=>¬lt b a:=by
 have h:=List.pairwise_mergeSort (le:=fun x y:List UInt8=>decide (x≤y)) (fun a b c h1 h2=>by simp only[decide_eq_true_eq]at*;exact List.le_trans h1 h2) (fun a b=>by simp only[Bool.or_eq_true,decide_eq_true_eq];exact List.le_total a b) (xs.map bl)
 rw[sortL_eq,List.pairwise_map]
 refine h.imp fun{a b} hab=>?_
 rw[lt_bl,bl_lb,bl_lb]
 simp only[decide_eq_true_eq]at hab
 exact List.not_lt.2 hab
def keep(xs:List ByteArray)(j:Nat):Bool:=j==0||decide (xs[j]?≠xs[j-1]?)
theorem compL_eq(xs:List ByteArray):compL xs=((List.range xs.length).filter (keep xs)).filterMap (xs[·]?):=by
 have hk:∀j∈List.range xs.length,Lib.keeps (xs.map bl).toArray j=keep xs j:=by
  intro j hj
  have hj:=List.mem_range.1 hj
  unfold Lib.keeps keep
  by_cases h0:j=0
  ·simp[h0]
  ·have h1:j-1<xs.length:=by omega
   rw[getElem!_pos _ j (by simpa using hj),getElem!_pos _ (j-1) (by simpa using h1),List.getElem?_eq_getElem hj,List.getElem?_eq_getElem h1]
   simp only[List.getElem_toArray,List.getElem_map,ne_eq,Option.some.injEq]
   have:(bl xs[j]=bl xs[j-1])↔xs[j]=xs[j-1]:=⟨fun e=>by rw[←lb_bl xs[j],e,lb_bl],fun e=>by rw[e]⟩
   simp[this,h0]
 unfold compL Lib.compact Lib.compactUpTo
 rw[List.length_map,List.filter_congr hk,List.map_map]
 rw[←List.filterMap_eq_map]
 have fc:∀(l:List Nat) (f g:Nat→Option ByteArray),(∀j∈l,f j=g j)→l.filterMap f=l.filterMap g:=by
  intro l f g
  induction l with
  |nil=>intro _;rfl
  |cons x l ih=>
   intro h
   rw[List.filterMap_cons,List.filterMap_cons,h x (List.mem_cons_self ..),ih fun j hj=>h j (List.mem_cons_of_mem _ hj)]
 refine fc _ _ _ fun j hj=>?_
 have hj:=List.mem_range.1 (List.mem_filter.1 hj).1
 simp only[Function.comp]
 rw[getElem!_pos _ j (by simpa using hj),List.getElem?_eq_getElem hj]
 simp[lb_bl]
theorem compL_mem(z:ByteArray)(xs:List ByteArray):z∈compL xs↔z∈xs:=by
 rw[compL_eq,List.mem_filterMap]
 constructor
 ·rintro⟨j,_,h⟩;exact List.mem_of_getElem? h
 ·intro h
  obtain⟨i,hi,e⟩:=List.mem_iff_getElem.1 h
  have key:∀i,xs[i]? =some z→∃j,j≤i∧xs[j]? =some z∧keep xs j=true:=by
   intro i
   induction i with
   |zero=>intro h;exact⟨0,Nat.le_refl _,h,rfl⟩
   |succ i ih=>
    intro h
    by_cases hp:xs[i]? =some z
    ·obtain⟨j,h1,h2⟩:=ih hp;exact⟨j,by omega,h2⟩
    ·exact⟨i+1,Nat.le_refl _,h,by unfold keep;rw[h,Nat.add_sub_cancel];simp[Ne.symm hp]⟩
  obtain⟨j,h1,h2,h3⟩:=key i (by rw[List.getElem?_eq_getElem hi,e])
  exact⟨j,List.mem_filter.2 ⟨List.mem_range.2 (by omega),h3⟩,h2⟩
theorem compL_pw{xs:List ByteArray}(h:xs.Pairwise fun a b=>¬lt b a):(compL xs).Pairwise lt:=by
 rw[compL_eq,List.pairwise_filterMap]
 have hr:((List.range xs.length).filter (keep xs)).Pairwise (·<·):=List.pairwise_lt_range.filter _
 refine List.Pairwise.imp_of_mem (fun{j k} hj hk hjk=>?_) hr
 intro a ha b hb
 have hkk:=(List.mem_filter.1 hk).2
 have hp:=List.pairwise_iff_getElem.1 h
 obtain⟨hjl,ea⟩:=List.getElem?_eq_some_iff.1 ha
 obtain⟨hkl,eb⟩:=List.getElem?_eq_some_iff.1 hb
 have h1:¬lt b a:=by rw[←ea,←eb];exact hp j k hjl hkl hjk
 refine lt_of_not h1 fun e=>?_
 unfold keep at hkk
 have hk0:k≠0:=by omega
 simp only[Bool.or_eq_true,beq_iff_eq,hk0,false_or,decide_eq_true_eq]at hkk
 apply hkk
 have hk1:k-1<xs.length:=by omega
 rw[List.getElem?_eq_getElem hkl,List.getElem?_eq_getElem hk1]
 congr 1
 by_cases hjk1:j=k-1
 ·subst hjk1;rw[ea,eb,e]
 ·have g1:=hp j (k-1) hjl hk1 (by omega)
  have g2:=hp (k-1) k hk1 hkl (by omega)
  rw[ea,←e]at g1
  rw[eb]at g2⊢
  exact lt_tri g2 g1
theorem pw_uniq:∀{a b:List ByteArray},a.Pairwise lt→b.Pairwise lt→(∀z,z∈a↔z∈b)→a=b
 |[],[],_,_,_=>rfl
 |[],y::b,_,_,h=>by have:=(h y).2 (List.mem_cons_self ..);cases this
 |x::a,[],_,_,h=>by have:=(h x).1 (List.mem_cons_self ..);cases this
 |x::a,y::b,ha,hb,h=>by
  have ha2:=List.pairwise_cons.1 ha
  have hb2:=List.pairwise_cons.1 hb
  have hxy:x=y:=by
   rcases List.mem_cons.1 ((h x).1 (List.mem_cons_self ..))with e|hx
   ·exact e
   ·rcases List.mem_cons.1 ((h y).2 (List.mem_cons_self ..))with e|hy
    ·exact e.symm
    ·exact(lt_asymm (hb2.1 x hx) (ha2.1 y hy)).elim
  subst hxy
  congr 1
  refine pw_uniq ha2.2 hb2.2 fun z=>⟨fun hz=>?_,fun hz=>?_⟩
  ·rcases List.mem_cons.1 ((h z).1 (List.mem_cons_of_mem _ hz))with e|hz2
   ·exact(lt_irrefl x (e▸ha2.1 z hz)).elim
   ·exact hz2
  ·rcases List.mem_cons.1 ((h z).2 (List.mem_cons_of_mem _ hz))with e|hz2
   ·exact(lt_irrefl x (e▸hb2.1 z hz)).elim
   ·exact hz2
open Go Go.Fw
set_option maxRecDepth 100000
theorem F44_l1_t(s:ByteArray)(hs:(bl s).length≤100000):∀(d i k:Nat) (acc:List ByteArray),(bl s).length≤i+d→i≤(bl s).length→d<k→acc.length+d≤200000→F44_l1 s k acc (i:Int)=some (tokR acc (tok ((bl s).drop i)))
 |d,i,k+1,acc,hd,hi,hk,hacc=>by
  rw[F44_l1]
  by_cases hlt:i<(bl s).length
  ·obtain⟨d,rfl⟩:∃e,d=e+1:=⟨d-1,by omega⟩
   have hda:(bl s).drop i=(bl s)[i]::(bl s).drop (i+1):=List.drop_eq_getElem_cons hlt
   have IH:∀n acc',1≤n→i+n≤(bl s).length→acc'.length≤acc.length+1→F44_l1 s k acc' ((i+n:Nat):Int)=some (tokR acc' (tok ((bl s).drop (i+n)))):=fun n acc' h1 h2 h3=>F44_l1_t s hs d (i+n) k acc' (by omega) h2 (by omega) (by omega)
   have ap:∀w:ByteArray,apI acc [w]=some (acc++[w]):=fun w=>apI_t (by simp;omega)
   have wr:∀n:Nat,i+n≤(bl s).length→IntKind.i64.wrap ((i:Int)+(n:Int))=((i+n:Nat):Int):=fun n h=>by rw[wrapI (by omega) (by omega)];omega
   have w1:IntKind.i64.wrap ((i:Int)+1)=((i+1:Nat):Int):=by rw[wrapI (by omega) (by omega)];omega
   have e8:=F40_l8_t s hs i ((bl s).length-i) 0 1099511627776 (by omega) (by omega)
   rw[show((0:Nat):Int)=0 from rfl,Nat.zero_add,Nat.add_zero,←F44_l5_e,hda]at e8
   rw[if_pos (by rw[size_bl];omega),byI_at hlt,hda,tok,e8]
   generalize hc:(bl s)[i]=c at*
   simp only[Option.bind_some,u8_32,u8_33,u8_40,u8_41,u8_44,u8_61]
   by_cases h32:c=32
   ·rw[if_pos h32,if_pos h32,w1,IH 1 acc (by omega) (by omega) (by omega)]
   rw[if_neg h32,if_neg h32]
   by_cases hwb:wb c=true
   ·rw[if_pos hwb]
    simp only[List.takeWhile_cons,hwb,if_true,List.length_cons]
    have hn:=takeW_len wb ((bl s).drop (i+1))
    rw[List.length_drop]at hn
    have et:(bl s).drop (i+((((bl s).drop (i+1)).takeWhile wb).length+1))=((bl s).drop (i+1)).dropWhile wb:=by
     rw[←drop_takeW wb ((bl s).drop (i+1)),List.drop_drop];congr 1;omega
    have ew:((bl s).drop i).take ((((bl s).drop (i+1)).takeWhile wb).length+1)=c::((bl s).drop (i+1)).takeWhile wb:=by
     rw[hda,List.take_succ_cons,take_takeW]
    have hz:¬(((((bl s).drop (i+1)).takeWhile wb).length+1:Nat):Int)=0:=by omega
    simp only[if_neg hz,Option.bind_some,Bool.false_eq_true,if_false]
    rw[wr _ (by omega),subI_t (by omega),ew]
    simp only[Option.bind_some,ap]
    rw[IH _ _ (by omega) (by omega) (by simp),et,tokR_map]
   rw[if_neg hwb]
   have hwf:wb c=false:=by simpa using hwb
   simp only[List.takeWhile_cons,hwf,Bool.false_eq_true,if_false,List.length_nil,show(((0:Nat):Int)=0)from rfl,if_true]
   have mk:∀z:Option Bool,z=some false→(((z.bind fun o12=>(if o12=true then some (2:Int)else some 0))).bind fun o11=>(((((if o11=0 then(if c=40 then some true else(if c=41 then some true else(if c=44 then some true else(if c=33 then some true else some (decide (c=61))))))else some false)).bind fun o20=>(if o20=true then some 1 else some o11))).bind fun o19=>(if o19=0 then(some (([],false):List ByteArray×Bool)).map Sum.inl else(subI s (i:Int) ((IntKind.i64.wrap ((i:Int)+o19)))).bind fun s33=>(apI acc ([s33])).bind fun a34=>F44_l1 s k a34 ((IntKind.i64.wrap ((i:Int)+o19))))))=some (tokR acc (if c=40∨c=41∨c=44∨c=33∨c=61 then(tok ((bl s).drop (i+1))).map (lb [c]::·)else none)):=by
    rintro _ rfl
    simp only[Option.bind_some,Bool.false_eq_true,if_false,if_true]
    have hb:(if c=40 then some true else(if c=41 then some true else(if c=44 then some true else(if c=33 then some true else some (decide (c=61))))))=some (mark c):=by
     unfold mark
     by_cases h1:c=40
     ·simp[h1]
     by_cases h2:c=41
     ·simp[h2]
     by_cases h3:c=44
     ·simp[h3]
     by_cases h4:c=33
     ·simp[h4]
     simp[h1,h2,h3,h4]
    have hmark:(c=40∨c=41∨c=44∨c=33∨c=61)↔mark c=true:=by simp[mark,or_assoc]
    rw[hb]
    simp only[hmark]
    cases hm:mark c
    ·simp[tokR]
    ·simp only[if_true,Option.bind_some,w1,show¬((1:Int)=0)by decide,if_false]
     rw[subI_t (n:=1) (by omega),hda]
     simp only[Option.bind_some,ap,List.take_succ_cons,List.take_zero]
     rw[IH 1 _ (by omega) (by omega) (by simp),tokR_map]
   by_cases h33:c=33
   ·by_cases h61:((bl s).drop (i+1)).head? =some 61
    ·have hl1:i+1<(bl s).length:=by
      rcases Nat.lt_or_ge (i+1) (bl s).length with h|h
      ·exact h
      ·rw[List.drop_of_length_le h]at h61;cases h61
     have hg:(bl s)[i+1]=61:=by
      rw[List.drop_eq_getElem_cons hl1]at h61;simpa only[List.head?_cons,Option.some.injEq]using h61
     have hd1:(bl s).drop (i+1)=61::(bl s).drop (i+2):=by rw[List.drop_eq_getElem_cons hl1,hg]
     rw[w1,if_pos (by rw[size_bl];omega),if_pos h33,byI_at hl1,hg,if_pos (show c=33∧_ from⟨h33,h61⟩)]
     simp only[Option.bind_some,u8_61,decide_true,if_true,show¬((2:Int)=0)by decide,if_false,Bool.false_eq_true]
     rw[show((2:Int))=((2:Nat):Int)from rfl,wr 2 (by omega),subI_t (n:=2) (by omega),hda,hd1]
     simp only[Option.bind_some,ap,List.take_succ_cons,List.take_zero,List.tail_cons]
     rw[IH 2 _ (by omega) (by omega) (by simp),←h33,tokR_map]
    ·rw[if_neg (show¬(c=33∧_)from fun h=>h61 h.2)]
     refine mk _ ?_
     rw[w1]
     by_cases hl1:i+1<(bl s).length
     ·rw[if_pos (by rw[size_bl];omega),if_pos h33,byI_at hl1]
      rw[List.drop_eq_getElem_cons hl1]at h61
      have:¬(bl s)[i+1]=61:=by simpa only[List.head?_cons,Option.some.injEq]using h61
      simp[u8_61,this]
     ·rw[if_neg (by rw[size_bl];omega)]
   ·rw[if_neg (show¬(c=33∧_)from fun h=>h33 h.1)]
    refine mk _ ?_
    rw[if_neg h33]
    split<;>rfl
  ·have:i=(bl s).length:=by omega
   rw[if_neg (by rw[size_bl];omega),List.drop_of_length_le (by omega),tok]
   simp[tokR]
theorem F44_t(s:ByteArray)(hs:(bl s).length≤100000):F44 s=some (tokB (tok (bl s))):=by
 unfold F44
 have:=F44_l1_t s hs (bl s).length 0 1099511627776 [] (by omega) (by omega) (by omega) (by simp;omega)
 rw[show((0:Nat):Int)=0 from rfl,List.drop_zero]at this
 rw[this]
 cases tok (bl s)<;>rfl
open Go Go.Fw
set_option maxRecDepth 100000
def atL(l:List ByteArray)(i:Nat):ByteArray:=(l[i]?).getD ⟨#[]⟩
theorem F64_t(l:List ByteArray)(i:Nat):F64 l (i:Int)=some (atL l i):=by
 unfold F64 atL
 by_cases h:i<l.length
 ·rw[if_pos (by omega),rdI_at h,Option.bind_some,List.getElem?_eq_getElem h];rfl
 ·rw[if_neg (by omega),List.getElem?_eq_none (by omega)];rfl
theorem F65_t(t:ByteArray):F65 t=some (isW t):=by
 unfold F65
 by_cases h:t=⟨#[]⟩
 ·rw[if_neg (by simp[h])]
  have:isW t=false:=by unfold isW;rw[(emp_iff t).1 h]
  rw[this];rfl
 ·rw[if_pos h]
  cases hb:bl t with
  |nil=>exact(h ((emp_iff t).2 hb)).elim
  |cons c l=>
   have:isW t=wb c:=by unfold isW;rw[hb]
   rw[byI0 hb,this]
   simp only[Option.bind_some,F52_t]
   rfl
def ltB(x:ByteArray)(y:ByteArray):Bool:=decide (lt y x)
def putL(l:List ByteArray)(x:ByteArray):List ByteArray:=l.takeWhile (ltB x)++x::(l.dropWhile (ltB x)).filter (fun y=> !decide (y=x))
theorem F77_l1_t(l:List ByteArray)(x:ByteArray)(hl:l.length≤100000):∀(n i k:Nat) (o:List ByteArray),l.length=i+n→n<k→o.length+n≤200000→
 F77_l1 l x k o (i:Int)=some (o++(l.drop i).takeWhile (ltB x),((i+((l.drop i).takeWhile (ltB x)).length:Nat):Int))
 |n,i,k+1,o,h,hk,ho=>by
  rw[F77_l1]
  by_cases hlt:i<l.length
  ·obtain⟨n,rfl⟩:∃e,n=e+1:=⟨n-1,by omega⟩
   have w1:IntKind.i64.wrap ((i:Int)+1)=((i+1:Nat):Int):=by rw[wrapI (by omega) (by omega)];omega
   rw[if_pos (by omega),rdI_at hlt,List.drop_eq_getElem_cons hlt,Option.bind_some,Option.bind_some]
   have hb:Op.bytesLess l[i].toList x.toList=ltB x l[i]:=by
    unfold ltB
    by_cases hh:lt l[i] x
    ·rw[decide_eq_true hh];exact hh
    ·rw[decide_eq_false hh];unfold lt at hh;simpa using hh
   rw[hb,List.takeWhile_cons]
   cases hv:ltB x l[i]
   ·simp
   ·simp only[if_true,Option.bind_some]
    rw[apI_t (by simp;omega),Option.bind_some,w1,F77_l1_t l x hl n (i+1) k _ (by omega) (by omega) (by simp;omega)]
    simp only[List.append_assoc,List.cons_append,List.nil_append,List.length_cons,Option.some.injEq,Prod.mk.injEq,true_and]
    omega
  ·rw[if_neg (by omega),List.drop_of_length_le (by omega)]
   simp
theorem F77_l9_t(l:List ByteArray)(x:ByteArray)(hl:l.length≤100000):∀(n i k:Nat) (o:List ByteArray),l.length=i+n→n<k→o.length+n≤300000→
 F77_l9 l x k o (i:Int)=some (o++(l.drop i).filter (fun y=> !decide (y=x)))
 |n,i,k+1,o,h,hk,ho=>by
  rw[F77_l9]
  by_cases hlt:i<l.length
  ·obtain⟨n,rfl⟩:∃e,n=e+1:=⟨n-1,by omega⟩
   have w1:IntKind.i64.wrap ((i:Int)+1)=((i+1:Nat):Int):=by rw[wrapI (by omega) (by omega)];omega
   rw[if_pos (by omega),rdI_at hlt,List.drop_eq_getElem_cons hlt,Option.bind_some,List.filter_cons]
   by_cases hx:l[i]=x
   ·rw[if_neg (by simp[hx]),Option.bind_some,w1,F77_l9_t l x hl n (i+1) k _ (by omega) (by omega) (by omega)]
    simp[hx]
   ·rw[if_pos hx,apI_t (by simp;omega),Option.bind_some,Option.bind_some,w1,F77_l9_t l x hl n (i+1) k _ (by omega) (by omega) (by simp;omega)]
    simp[hx]
  ·rw[if_neg (by omega),List.drop_of_length_le (by omega)]
   simp
theorem drop_takeW'{α:Type}(p:α→Bool):∀l:List α,l.drop (l.takeWhile p).length=l.dropWhile p
 |[]=>rfl
 |a::r=>by cases h:p a<;>simp[List.takeWhile_cons,List.dropWhile_cons,h,drop_takeW' p r]
theorem F77_t(l:List ByteArray)(x:ByteArray)(hl:l.length≤100000):F77 l x=some (putL l x):=by
 unfold F77 putL
 have h1:=F77_l1_t l x hl l.length 0 1099511627776 [] (by omega) (by omega) (by simp;omega)
 have ht:(l.takeWhile (ltB x)).length≤l.length:=(List.takeWhile_sublist _).length_le
 rw[List.drop_zero,List.nil_append,Nat.zero_add,show((0:Nat):Int)=0 from rfl]at h1
 rw[h1,Option.bind_some]
 simp only
 rw[apI_t (by simp;omega),Option.bind_some,F77_l9_t l x hl (l.length-(l.takeWhile (ltB x)).length) _ _ _ (by omega) (by omega) (by simp;omega),drop_takeW']
 simp
theorem putL_mem(x z:ByteArray)(l:List ByteArray):z∈putL l x↔z=x∨z∈l:=by
 unfold putL
 have hc:l.takeWhile (ltB x)++l.dropWhile (ltB x)=l:=List.takeWhile_append_dropWhile
 rw[List.mem_append,List.mem_cons,List.mem_filter]
 constructor
 ·rintro(h|h|h)
  ·exact .inr ((List.takeWhile_sublist _).subset h)
  ·exact .inl h
  ·exact .inr ((List.dropWhile_sublist _).subset h.1)
 ·rintro(h|h)
  ·exact .inr (.inl h)
  ·by_cases hz:z=x
   ·exact .inr (.inl hz)
   ·rw[←hc,List.mem_append]at h
    rcases h with h|h
    ·exact .inl h
    ·exact .inr (.inr ⟨h,by simp[hz]⟩)
theorem putL_pw{x:ByteArray}:∀{l:List ByteArray},l.Pairwise lt→(putL l x).Pairwise lt
 |[],_=>by simp[putL]
 |a::l,h=>by
  have h2:=List.pairwise_cons.1 h
  by_cases ha:lt a x
  ·have e:putL (a::l) x=a::putL l x:=by simp[putL,List.takeWhile_cons,List.dropWhile_cons,ltB,ha]
   rw[e,List.pairwise_cons]
   refine⟨fun z hz=>?_,putL_pw h2.2⟩
   rcases(putL_mem x z l).1 hz with rfl|hz
   ·exact ha
   ·exact h2.1 z hz
  ·have e:putL (a::l) x=x::(a::l).filter (fun y=> !decide (y=x)):=by simp[putL,List.takeWhile_cons,List.dropWhile_cons,ltB,ha]
   rw[e,List.pairwise_cons]
   refine⟨fun z hz=>?_,h.filter _⟩
   obtain⟨hz,hne⟩:=List.mem_filter.1 hz
   have hne:z≠x:=by simpa using hne
   rcases List.mem_cons.1 hz with rfl|hz
   ·exact lt_of_not ha hne
   ·have haz:=h2.1 z hz
    by_cases hax:a=x
    ·rw[←hax];exact haz
    ·exact lt_trans (lt_of_not ha hax) haz
theorem norm_pw(l:List ByteArray):(norm l).Pairwise lt:=compL_pw (sortL_pw l)
theorem norm_mem(z:ByteArray)(l:List ByteArray):z∈norm l↔z∈l:=by unfold norm;rw[compL_mem,sortL_mem]
theorem norm_put(o:List ByteArray)(x:ByteArray):putL (norm o) x=norm (o++[x]):=
 pw_uniq (putL_pw (norm_pw o)) (norm_pw _) fun z=>by
  rw[putL_mem,norm_mem,norm_mem,List.mem_append,List.mem_singleton]
  exact or_comm
theorem norm_nil:norm []=[]:=by
 cases h:norm []with
 |nil=>rfl
 |cons a l=>have h1:=(norm_mem a []).1 (by rw[h];simp);cases h1
def lsR:Nat→List ByteArray→List ByteArray→Option (List ByteArray×List ByteArray)
 |0,_,_=>none
 |n+1,ts,vs=>match(wordP ts).1 with
  |[]=>none
  |t::r=>if t=⟨#[41]⟩then some (r,putL vs (wordP ts).2)else if t=⟨#[44]⟩then lsR n r (putL vs (wordP ts).2)else none
theorem ne_41_44:(⟨#[41]⟩:ByteArray)≠⟨#[44]⟩:=by decide
theorem lsR_ls:∀(n:Nat) (ts out:List ByteArray),ts.length<n→
 lsR n ts (norm out)=(match acc ⟨#[41]⟩ (lsP (wordP ts).1 (out++[(wordP ts).2])).1 with
  |(_,false)=>none
  |(t2,true)=>some (t2,norm (lsP (wordP ts).1 (out++[(wordP ts).2])).2))
 |n+1,ts,out,h=>by
  rw[lsR,norm_put]
  have hw:=wordP_len ts
  generalize wordP ts=w at hw⊢
  obtain⟨w1,w2⟩:=w
  cases w1 with
  |nil=>rw[lsP];rfl
  |cons t r=>
   simp only at hw
   simp only[List.length_cons]at hw
   simp only
   rw[lsP]
   by_cases h1:t=⟨#[41]⟩
   ·have h2:¬t=⟨#[44]⟩:=by rw[h1];exact ne_41_44
    rw[if_pos h1,if_neg h2]
    simp only[acc,if_pos h1]
   ·rw[if_neg h1]
    by_cases h2:t=⟨#[44]⟩
    ·rw[if_pos h2,if_pos h2,lsR_ls n r _ (by omega)]
    ·rw[if_neg h2,if_neg h2]
     simp only[acc,if_neg h1]
theorem atL_drop(l:List ByteArray)(i:Nat):atL l i=match l.drop i with|[]=>⟨#[]⟩|t::_=>t:=by
 unfold atL
 by_cases h:i<l.length
 ·rw[List.drop_eq_getElem_cons h,List.getElem?_eq_getElem h];rfl
 ·rw[List.drop_of_length_le (by omega),List.getElem?_eq_none (by omega)];rfl
theorem word_at(l:List ByteArray)(i:Nat):(isW (atL l i)=true∧∃h:i<l.length,wordP (l.drop i)=(l.drop (i+1),l[i]))∨(isW (atL l i)=false∧wordP (l.drop i)=(l.drop i,⟨#[]⟩)):=by
 rw[atL_drop]
 by_cases h:i<l.length
 ·rw[List.drop_eq_getElem_cons h]
  simp only[wordP]
  cases hw:isW l[i]
  ·exact .inr ⟨rfl,by simp⟩
  ·exact .inl ⟨rfl,h,by simp⟩
 ·rw[List.drop_of_length_le (by omega)]
  exact .inr ⟨rfl,rfl⟩
theorem word_ne{t:ByteArray}(h:isW t=true):t≠⟨#[]⟩:=fun e=>by rw[e]at h;cases h
theorem putL_len(l:List ByteArray)(x:ByteArray):(putL l x).length≤l.length+1:=by
 unfold putL
 have h1:(l.takeWhile (ltB x)).length+(l.dropWhile (ltB x)).length=l.length:=by
  rw[←List.length_append,List.takeWhile_append_dropWhile]
 have h2:=(List.filter_sublist (p:=fun y=> !decide (y=x)) (l:=l.dropWhile (ltB x))).length_le
 rw[List.length_append,List.length_cons];omega
def resL(l:List ByteArray)(q:Requirement):Option (List ByteArray×List ByteArray)→(ByteArray×Int×(List ByteArray)×Int×Bool)
 |none=>(⟨#[]⟩,0,[],0,true)
 |some (r,v)=>(q.Key,q.Op,v,((l.length-r.length:Nat):Int),false)
theorem drop_suf{l r:List ByteArray}{i:Nat}(h:l.drop i=r)(hi:i≤l.length):i=l.length-r.length:=by
 have:=congrArg List.length h;rw[List.length_drop]at this;omega
theorem F66_l3_t(l:List ByteArray)(q:Requirement)(hl:l.length≤40000):∀(n i k:Nat) (vs:List ByteArray),i<l.length→l.length≤i+n→n<k→vs.length+n≤50000→
 F66_l3 l q k (i:Int) vs=some (.inl (resL l q (lsR n (l.drop (i+1)) vs)))
 |0,i,k,vs,h,h1,_,_=>by omega
 |n+1,i,k+1,vs,h,h1,hk,hv=>by
  have w1:∀j:Nat,j≤l.length→IntKind.i64.wrap ((j:Int)+1)=((j+1:Nat):Int):=fun j hj=>by rw[wrapI (by omega) (by omega)];omega
  rw[F66_l3,w1 i (by omega),lsR]
  simp only[F64_t,F65_t,Option.bind_some]
  have key:∃j:Nat,(if isW (atL l (i+1))=true then(rdI l ((i+1:Nat):Int)).bind fun y8=>some ((IntKind.i64.wrap (((i+1:Nat):Int)+1)),y8)else some (((i+1:Nat):Int),(⟨#[]⟩:ByteArray)))=some ((j:Int),(wordP (l.drop (i+1))).2)∧(wordP (l.drop (i+1))).1=l.drop j∧i<j∧j≤l.length:=by
   rcases word_at l (i+1)with⟨hw,hlt,he⟩|⟨hw,he⟩
   ·refine⟨i+2,?_,by rw[he],by omega,by omega⟩
    rw[if_pos hw,rdI_at hlt,Option.bind_some,w1 (i+1) (by omega),he]
   ·refine⟨i+1,?_,by rw[he],by omega,by omega⟩
    rw[hw,he];rfl
  obtain⟨j,e1,e2,hj,hjl⟩:=key
  rw[e1,e2]
  simp only[Option.bind_some]
  rw[F77_t _ _ (by omega)]
  simp only[Option.bind_some,F64_t]
  rw[atL_drop]
  have hp:=putL_len vs (wordP (l.drop (i+1))).2
  by_cases hjlt:j<l.length
  ·rw[List.drop_eq_getElem_cons hjlt]
   simp only
   by_cases h41:l[j]=⟨#[41]⟩
   ·rw[if_pos h41,if_pos h41,w1 j (by omega)]
    simp only[Option.map_some,resL]
    rw[←drop_suf (i:=j+1) rfl (by omega)]
   ·rw[if_neg h41,if_neg h41]
    by_cases h44:l[j]=⟨#[44]⟩
    ·rw[if_neg (by simp[h44]),if_pos h44]
     exact F66_l3_t l q hl n j k _ hjlt (by omega) (by omega) (by omega)
    ·rw[if_pos h44,if_neg h44]
     rfl
  ·rw[List.drop_of_length_le (by omega)]
   rw[if_neg (by decide),if_pos (by decide)]
   rfl
theorem acc_at(x:ByteArray)(hx:x≠⟨#[]⟩)(l:List ByteArray)(i:Nat):(atL l i=x∧i<l.length∧acc x (l.drop i)=(l.drop (i+1),true))∨(atL l i≠x∧acc x (l.drop i)=(l.drop i,false)):=by
 rw[atL_drop]
 by_cases h:i<l.length
 ·rw[List.drop_eq_getElem_cons h]
  simp only[acc]
  by_cases he:l[i]=x
  ·exact .inl ⟨he,h,by rw[if_pos he]⟩
  ·exact .inr ⟨he,by rw[if_neg he]⟩
 ·rw[List.drop_of_length_le (by omega)]
  exact .inr ⟨hx.symm,rfl⟩
theorem F66_t(l:List ByteArray)(hl:l.length≤40000)(i:Nat)(k:ByteArray)(op:Int):F66 l (i:Int) ⟨k,op,[]⟩=some (resL l ⟨k,op,[]⟩ (listP (l.drop i))):=by
 unfold F66 listP
 rw[F64_t,Option.bind_some]
 rcases acc_at ⟨#[40]⟩ (by decide) l i with⟨h1,hlt,h2⟩|⟨h1,h2⟩
 ·rw[if_neg (by simp[h1]),h2,F66_l3_t l _ hl (l.length-i) i _ _ hlt (by omega) (by omega) (by simp;omega),Option.bind_some]
  simp only
  have:=lsR_ls (l.length-i) (l.drop (i+1)) [] (by rw[List.length_drop];omega)
  rw[norm_nil,List.nil_append]at this
  rw[this]<;>rfl
 ·rw[if_pos h1,h2];rfl
def resQ(l:List ByteArray):Option (List ByteArray×Requirement)→(ByteArray×Int×(List ByteArray)×Int×Bool)
 |none=>(⟨#[]⟩,0,[],0,true)
 |some (r,q)=>(q.Key,q.Op,q.Values,((l.length-r.length:Nat):Int),false)
theorem resL_Q(l:List ByteArray)(k:ByteArray)(op:Int)(o:Option (List ByteArray×List ByteArray)):resL l ⟨k,op,[]⟩ o=resQ l (o.map fun x=>(x.1,⟨k,op,x.2⟩)):=by
 cases o<;>rfl
theorem F45_t(l:List ByteArray)(hl:l.length≤40000)(i:Nat)(hi:i<l.length):F45 l (i:Int)=some (resQ l (reqP (l.drop i))):=by
 have wn:∀n:Nat,n≤9→IntKind.i64.wrap ((i:Int)+(n:Int))=((i+n:Nat):Int):=fun n hj=>by rw[wrapI (by omega) (by omega)];omega
 have w1:IntKind.i64.wrap ((i:Int)+1)=((i+1:Nat):Int):=wn 1 (by omega)
 have w2:IntKind.i64.wrap ((i:Int)+2)=((i+2:Nat):Int):=wn 2 (by omega)
 have w3:IntKind.i64.wrap ((i:Int)+3)=((i+3:Nat):Int):=wn 3 (by omega)
 unfold F45 reqP
 simp only[w1,w2,w3,F64_t,F65_t,Option.bind_some,nb_not]
 have suf:∀j:Nat,j≤l.length→((j:Nat):Int)=((l.length-(l.drop j).length:Nat):Int):=fun j hj=>by rw[List.length_drop];omega
 rcases acc_at ⟨#[33]⟩ (by decide) l i with⟨h1,hlt,h2⟩|⟨h1,h2⟩
 ·rw[if_pos h1,h2]
  simp only
  rcases word_at l (i+1)with⟨hw,hlt1,he⟩|⟨hw,he⟩
  ·rw[he,hw]
   simp only[Bool.not_true,Bool.false_eq_true,if_false]
   have hne:l[i+1]≠⟨#[]⟩:=by
    have:=word_ne hw
    unfold atL at this
    rwa [List.getElem?_eq_getElem hlt1]at this
   rw[rdI_at hlt1,Option.bind_some,if_neg hne,if_pos trivial]
   simp only[resQ]
   rw[suf (i+2) (by omega)]
  ·rw[he,hw];rfl
 ·rw[if_neg h1,h2]
  simp only
  rcases word_at l i with⟨hw,hlt1,he⟩|⟨hw,he⟩
  ·rw[he,hw]
   have hne:l[i]≠⟨#[]⟩:=by
    have:=word_ne hw
    unfold atL at this
    rwa [List.getElem?_eq_getElem hlt1]at this
   simp only[Bool.not_true,Bool.false_eq_true,if_false]
   rw[rdI_at hlt1,Option.bind_some,if_neg hne]
   rw[atL_drop]
   by_cases hl1:i+1<l.length
   ·rw[List.drop_eq_getElem_cons hl1]
    simp only[opP]
    generalize hx:l[i+1]=x
    have li:∀op:Int,(F66 l ((i+2:Nat):Int) ⟨l[i],op,[]⟩).bind (fun t17=>some (t17.1,t17.2.1,t17.2.2.1,t17.2.2.2.1,t17.2.2.2.2))=some (resQ l ((listP (l.drop (i+1+1))).map fun x=>(x.1,⟨l[i],op,x.2⟩))):=fun op=>by
     rw[F66_t l hl,Option.bind_some,resL_Q]
    have eqw:∀op:Int,(if isW (atL l (i+2))=true then(rdI l ((i+2:Nat):Int)).bind fun y26=>some (l[i],op,[y26],((i+3:Nat):Int),false)else some (l[i],op,[(⟨#[]⟩:ByteArray)],((i+2:Nat):Int),false))=some (resQ l (some ((wordP (l.drop (i+1+1))).1,⟨l[i],op,[(wordP (l.drop (i+1+1))).2]⟩))):=fun op=>by
     rcases word_at l (i+2)with⟨hw,hlt1,he⟩|⟨hw,he⟩
     ·rw[if_pos hw,rdI_at hlt1,Option.bind_some,he]
      simp only[resQ]
      rw[suf (i+3) (by omega)]
     ·rw[if_neg (by rw[hw];decide),he]
      simp only[resQ]
      rw[suf (i+2) (by omega)]
    by_cases g3:x=⟨#[105,110]⟩
    ·subst g3
     rw[if_pos rfl,if_neg (by decide),if_neg (by decide),if_pos rfl]
     simp only[Option.bind_some,if_true]
     rw[if_neg (by decide)]
     exact li 1
    ·rw[if_neg g3]
     by_cases g4:x=⟨#[110,111,116,105,110]⟩
     ·subst g4
      simp only[show¬((⟨#[110,111,116,105,110]⟩:ByteArray)=⟨#[61]⟩)by decide,show¬((⟨#[110,111,116,105,110]⟩:ByteArray)=⟨#[33,61]⟩)by decide,g3,if_false,if_true,decide_true,Option.bind_some]
      exact li 2
     ·simp only[decide_eq_false g4,Option.bind_some,Bool.false_eq_true,if_false,if_neg g3,if_neg g4]
      by_cases g1:x=⟨#[61]⟩
      ·subst g1
       rw[if_pos rfl,if_pos rfl]
       simp only[Option.bind_some,if_true]
       rw[if_neg (by decide)]
       exact eqw 1
      ·rw[if_neg g1,if_neg g1]
       by_cases g2:x=⟨#[33,61]⟩
       ·subst g2
        rw[if_pos rfl]
        simp only[Option.bind_some,decide_true,if_true]
        exact eqw 2
       ·simp only[decide_eq_false g2,Option.bind_some,Bool.false_eq_true,if_false,if_neg g2]
        simp only[resQ]
        rw[←hx,←List.drop_eq_getElem_cons hl1,suf (i+1) (by omega)]
   ·rw[List.drop_of_length_le (by omega)]
    simp only[opP]
    rw[if_neg (by decide),if_neg (by decide)]
    simp only[Option.bind_some]
    rw[if_neg (by decide),if_neg (by decide)]
    simp only[Option.bind_some]
    rw[if_neg (by decide)]
    simp only[resQ,List.length_nil]
    rw[show((i+1:Nat):Int)=((l.length-0:Nat):Int)by omega]
  ·rw[he,hw];rfl
open Go Go.Fw
set_option maxRecDepth 100000
def resS'(out:List Requirement):Option (List Requirement)→((List Requirement)×Int) ⊕ (List Requirement)
 |none=> .inl ([],2)
 |some qs=> .inr (out++qs)
theorem reqP_suf{l:List ByteArray}(i:Nat){t2:List ByteArray}{q:Requirement}(h:reqP (l.drop i)=some (t2,q)):∃j,i<j∧j≤l.length∧t2=l.drop j:=by
 have hw:∀i,∃j,i≤j∧(wordP (l.drop i)).1=l.drop j:=fun i=>by
  rcases word_at l i with⟨_,_,he⟩|⟨_,he⟩
  ·exact⟨i+1,by omega,by rw[he]⟩
  ·exact⟨i,by omega,by rw[he]⟩
 have ha:∀(x:ByteArray) i,∃j,i≤j∧(acc x (l.drop i)).1=l.drop j:=fun x i=>by
  by_cases hi:i<l.length
  ·rw[List.drop_eq_getElem_cons hi]
   simp only[acc]
   split
   ·exact⟨i+1,by omega,rfl⟩
   ·exact⟨i,by omega,by rw[List.drop_eq_getElem_cons hi]⟩
  ·rw[List.drop_of_length_le (by omega)]
   exact⟨i,by omega,by rw[List.drop_of_length_le (by omega)];rfl⟩
 have hls:∀(n:Nat) (i:Nat) (vs t2 v:List ByteArray),lsR n (l.drop i) vs=some (t2,v)→∃j,i≤j∧t2=l.drop j:=by
  intro n
  induction n with
  |zero=>intro i vs t2 v h;cases h
  |succ n ih=>
   intro i vs t2 v h
   rw[lsR]at h
   obtain⟨j,hj,e⟩:=hw i
   rw[e]at h
   by_cases hjl:j<l.length
   ·rw[List.drop_eq_getElem_cons hjl]at h
    simp only at h
    split at h
    ·simp only[Option.some.injEq,Prod.mk.injEq]at h;exact⟨j+1,by omega,h.1.symm⟩
    split at h
    ·obtain⟨j2,h1,h2⟩:=ih _ _ _ _ h;exact⟨j2,by omega,h2⟩
    ·cases h
   ·rw[List.drop_of_length_le (by omega)]at h;cases h
 have hl:∀(i:Nat) (t2 v:List ByteArray),listP (l.drop i)=some (t2,v)→∃j,i≤j∧t2=l.drop j:=by
  intro i t2 v h
  unfold listP at h
  rcases acc_at ⟨#[40]⟩ (by decide) l i with⟨_,hlt,h2⟩|⟨_,h2⟩
  ·rw[h2]at h
   simp only at h
   have:=lsR_ls (l.length-i) (l.drop (i+1)) [] (by rw[List.length_drop];omega)
   rw[norm_nil,List.nil_append]at this
   have h3:lsR (l.length-i) (l.drop (i+1)) []=some (t2,v):=by rw[this];exact h
   obtain⟨j,h4,h5⟩:=hls _ _ _ _ _ h3
   exact⟨j,by omega,h5⟩
  ·rw[h2]at h;cases h
 have ho:∀(k:ByteArray) (i:Nat) (t2:List ByteArray) (q:Requirement),opP k (l.drop i)=some (t2,q)→∃j,i≤j∧t2=l.drop j:=by
  intro k i t2 q h
  by_cases hi:i<l.length
  ·rw[List.drop_eq_getElem_cons hi]at h
   simp only[opP]at h
   obtain⟨j,hj,e⟩:=hw (i+1)
   split at h
   ·simp only[Option.some.injEq,Prod.mk.injEq]at h;exact⟨j,by omega,by rw[←h.1,e]⟩
   split at h
   ·simp only[Option.some.injEq,Prod.mk.injEq]at h;exact⟨j,by omega,by rw[←h.1,e]⟩
   split at h
   ·obtain⟨⟨y1,y2⟩,hy,e⟩:=Option.map_eq_some_iff.1 h
    simp only[Prod.mk.injEq]at e
    obtain⟨j,h1,h2⟩:=hl _ _ _ hy
    exact⟨j,by omega,by rw[←e.1,h2]⟩
   split at h
   ·obtain⟨⟨y1,y2⟩,hy,e⟩:=Option.map_eq_some_iff.1 h
    simp only[Prod.mk.injEq]at e
    obtain⟨j,h1,h2⟩:=hl _ _ _ hy
    exact⟨j,by omega,by rw[←e.1,h2]⟩
   ·simp only[Option.some.injEq,Prod.mk.injEq]at h
    exact⟨i,by omega,by rw[←h.1,List.drop_eq_getElem_cons hi]⟩
  ·rw[List.drop_of_length_le (by omega)]at h
   simp only[opP,Option.some.injEq,Prod.mk.injEq]at h
   exact⟨i,by omega,by rw[←h.1,List.drop_of_length_le (by omega)]⟩
 have hlen:=reqP_len h
 have hany:∃j,t2=l.drop j:=by
  unfold reqP at h
  obtain⟨j1,_,e1⟩:=ha ⟨#[33]⟩ i
  obtain⟨j2,_,e2⟩:=hw j1
  simp only[e1,e2]at h
  split at h
  ·cases h
  split at h
  ·simp only[Option.some.injEq,Prod.mk.injEq]at h;exact⟨j2,h.1.symm⟩
  ·obtain⟨j,_,e⟩:=ho _ _ _ _ h;exact⟨j,e⟩
 obtain⟨j,rfl⟩:=hany
 rw[List.length_drop,List.length_drop]at hlen
 by_cases hj:j≤l.length
 ·exact⟨j,by omega,hj,rfl⟩
 ·exact⟨l.length,by omega,Nat.le_refl _,by rw[List.drop_of_length_le (by omega),List.drop_of_length_le (Nat.le_refl _)]⟩
theorem F25_l4_end(t:List ByteArray×Bool)(k:Nat)(out:List Requirement)(i:Nat)(h:t.1.length≤i):F25_l4 t (k+1) out (i:Int)=some (.inr out):=by
 rw[F25_l4,if_neg (by omega)]
theorem F25_l4_t(t:List ByteArray×Bool)(hl:t.1.length≤40000):∀(n i k:Nat) (out:List Requirement),i<t.1.length→t.1.length≤i+n→n+1<k→out.length+n≤50000→
 F25_l4 t k out (i:Int)=some (resS' out (selP (n+1) (t.1.drop i)))
 |n,i,k+1,out,hi,hn,hk,ho=>by
  obtain⟨n,rfl⟩:∃m,n=m+1:=⟨n-1,by omega⟩
  rw[F25_l4,if_pos (by omega),F45_t t.1 hl i hi,Option.bind_some,selP]
  cases hr:reqP (t.1.drop i)with
  |none=>rfl
  |some y=>
   obtain⟨t2,q⟩:=y
   obtain⟨j,hij,hjl,rfl⟩:=reqP_suf i hr
   have ej:t.1.length-(t.1.drop j).length=j:=by rw[List.length_drop];omega
   have w1:IntKind.i64.wrap ((j:Int)+1)=((j+1:Nat):Int):=by rw[wrapI (by omega) (by omega)];omega
   simp only[resQ,ej,Option.bind_some,Bool.false_eq_true,if_false,w1]
   rw[apI_t (by simp;omega)]
   simp only[Option.bind_some]
   by_cases hj:j<t.1.length
   ·rw[if_pos (by omega),rdI_at hj,Option.bind_some,List.drop_eq_getElem_cons hj]
    simp only
    by_cases hc:t.1[j]=⟨#[44]⟩
    ·rw[if_neg (by simp[hc]),if_pos hc]
     simp only[Option.bind_some,decide_eq_true_eq]
     by_cases he:j+1=t.1.length
     ·rw[if_pos (by omega),List.drop_of_length_le (l:=t.1) (i:=j+1) (by omega),selP]
      rfl
     ·rw[if_neg (by omega)]
      have:=F25_l4_t t hl n (j+1) k (out++[⟨q.Key,q.Op,q.Values⟩]) (by omega) (by omega) (by omega) (by simp;omega)
      rw[this]
      cases selP (n+1) (t.1.drop (j+1))<;>simp[resS']
    ·rw[if_pos hc,if_neg hc];rfl
   ·rw[if_neg (by omega)]
    simp only[Option.bind_some,decide_eq_true_eq]
    rw[if_neg (by omega),List.drop_of_length_le (by omega)]
    obtain⟨k,rfl⟩:∃m,k=m+1:=⟨k-1,by omega⟩
    rw[F25_l4_end t k _ (j+1) (by omega)]
    rfl
theorem F46_l3_t:∀(l:List ByteArray) (i:Nat),F46_l3 l i=some (if l.all valB=true then .inr ()else .inl 1)
 |[],i=>by rw[F46_l3];rfl
 |x::l,i=>by
  rw[F46_l3,F32_t,Option.bind_some,nb_not]
  cases hv:valB x
  ·simp[hv]
  ·simp only[Bool.not_true,Bool.false_eq_true,if_false,List.all_cons,hv,Bool.true_and]
   exact F46_l3_t l (i+1)
theorem F46_t(q:Requirement)(h:q.Values.length≤4294967290):F46 q=some (chk q):=by
 unfold F46 chk
 simp only[F31_t,Option.bind_some,nb_not]
 cases hk:keyB q.Key
 ·simp
 ·rw[ck_t ⟨by omega,h⟩,Option.bind_some,F46_l3_t]
  cases hv:q.Values.all valB
  ·simp
  ·by_cases h6:64<q.Values.length
   ·have:(64:Int)<q.Values.length:=by omega
    simp[this,h6]
   ·have:¬(64:Int)<q.Values.length:=by omega
    simp[this,h6]
theorem F25_l15_t(o:List Requirement)(ho:∀q∈o,q.Values.length≤4294967290):∀(n i:Nat),o.length=i+n→F25_l15 o (o.drop i) i=some (if chkA (o.drop i)=0 then .inr ()else .inl ([],chkA (o.drop i)))
 |0,i,h=>by rw[List.drop_of_length_le (by omega),F25_l15];rfl
 |n+1,i,h=>by
  have hlt:i<o.length:=by omega
  rw[List.drop_eq_getElem_cons hlt,F25_l15,rdI_at hlt,Option.bind_some,F46_t _ (ho _ (List.getElem_mem hlt)),Option.bind_some,chkA]
  by_cases h0:chk o[i]=0
  ·rw[if_neg (by simp[h0]),F25_l15_t o ho n (i+1) (by omega),if_pos h0]
  ·rw[if_pos h0,if_neg h0,if_neg h0];rfl
theorem sel_bound{s:ByteArray}(h0:¬20000<s.size){ts:List ByteArray}(ht:tok (bl s)=some ts){l:List Requirement}(hs:selT ts=some l):l.length≤20000∧∀q∈l,q.Values.length≤20001:=by
 have hl:=tok_len _ _ (Nat.le_refl _) ts ht
 have hz:(bl s).length≤20000:=by rw[←size_bl];omega
 unfold selT at hs
 split at hs
 ·cases hs;exact⟨by simp,fun q hq=>by cases hq⟩
 ·have:=selP_spec _ _ _ hs
  exact⟨by omega,fun q hq=>by have:=this.2 q hq;omega⟩
theorem F25_t(s:ByteArray):F25 s=some (parseL s):=by
 unfold F25 parseL
 by_cases h0:20000<s.size
 ·rw[if_pos h0,if_pos (by omega)]
 rw[if_neg h0,if_neg (by omega)]
 have hs:(bl s).length≤20000:=by rw[←size_bl];omega
 rw[F44_t s (by omega),Option.bind_some]
 cases ht:tok (bl s)with
 |none=>rfl
 |some ts=>
  have hl:=tok_len _ _ (Nat.le_refl _) ts ht
  rw[show tokB (some ts)=(ts,true)from rfl]
  simp only[nb_not,Bool.not_true,Bool.false_eq_true,if_false]
  have hloop:F25_l4 (ts,true) 1099511627776 [] 0=some (resS' [] (selT ts)):=by
   unfold selT
   by_cases he:ts=[]
   ·subst he
    rw[if_pos rfl]
    exact F25_l4_end ([],true) 1099511627775 [] 0 (Nat.le_refl _)
   ·rw[if_neg he]
    have hp:ts.length≠0:=fun h=>he (List.length_eq_zero_iff.1 h)
    have:=F25_l4_t (ts,true) (by simp only;omega) ts.length 0 1099511627776 [] (by simp only;omega) (by simp only;omega) (by omega) (by simp;omega)
    rw[List.drop_zero]at this
    exact this
  rw[hloop,Option.bind_some]
  cases hp:selT ts with
  |none=>rfl
  |some l=>
   have hb:=sel_bound h0 ht hp
   simp only[resS',List.nil_append]
   rw[ck_t ⟨by omega,by omega⟩,Option.bind_some]
   have:=F25_l15_t l (fun q hq=>by have:=hb.2 q hq;omega) l.length 0 (by simp)
   rw[List.drop_zero]at this
   rw[this]
   by_cases hc:chkA l=0
   ·simp only[if_pos hc,Option.bind_some]
    by_cases h16:16<l.length
    ·rw[if_pos (by omega),if_pos h16]
    ·rw[if_neg (by omega),if_neg h16]
   ·simp only[if_neg hc,Option.bind_some]
theorem F47_l2_t(a:List ByteArray):∀(n i:Nat),a.length=i+n→F47_l2 a (a.drop i) i=some (.inr ())
 |0,i,h=>by rw[List.drop_of_length_le (by omega),F47_l2]
 |n+1,i,h=>by
  have hlt:i<a.length:=by omega
  rw[List.drop_eq_getElem_cons hlt,F47_l2,rdI_at hlt,Option.bind_some,if_neg (by simp),F47_l2_t a n (i+1) (by omega)]
theorem F47_t{a:List ByteArray}(h:a.length≤4294967290):F47 a a=some true:=by
 unfold F47
 have:=F47_l2_t a a.length 0 (by simp)
 rw[List.drop_zero]at this
 rw[if_neg (by simp),ck_t ⟨by omega,h⟩,Option.bind_some,this];rfl
theorem F26_l2_t(a:List Requirement)(ha:∀q∈a,q.Values.length≤4294967290):∀(n i:Nat),a.length=i+n→F26_l2 a (a.drop i) i=some (.inr ())
 |0,i,h=>by rw[List.drop_of_length_le (by omega),F26_l2]
 |n+1,i,h=>by
  have hlt:i<a.length:=by omega
  rw[List.drop_eq_getElem_cons hlt,F26_l2,rdI_at hlt,Option.bind_some,if_neg (by simp),if_neg (by simp),F47_t (ha _ (List.getElem_mem hlt)),Option.bind_some,Option.bind_some,if_neg (by decide),F26_l2_t a ha n (i+1) (by omega)]
theorem F26_t{a:List Requirement}(h:a.length≤4294967290)(ha:∀q∈a,q.Values.length≤4294967290):F26 a a=some true:=by
 unfold F26
 have:=F26_l2_t a ha a.length 0 (by simp)
 rw[List.drop_zero]at this
 rw[if_neg (by simp),ck_t ⟨by omega,h⟩,Option.bind_some,this];rfl
theorem parseL_bound(s:ByteArray):(parseL s).1.length≤20000∧∀q∈(parseL s).1,q.Values.length≤20001:=by
 have nil:∀e:Int,((([]:List Requirement),e).1.length≤20000)∧∀q∈(([]:List Requirement),e).1,q.Values.length≤20001:=fun e=>⟨by simp,fun q hq=>by cases hq⟩
 unfold parseL
 by_cases h0:20000<s.size
 ·rw[if_pos h0];exact nil _
 rw[if_neg h0]
 cases ht:tok (bl s)with
 |none=>exact nil _
 |some ts=>
  simp only
  cases hp:selT ts with
  |none=>exact nil _
  |some l=>
   simp only
   by_cases hc:chkA l=0
   ·rw[if_pos hc]
    by_cases h16:16<l.length
    ·rw[if_pos h16];exact nil _
    ·rw[if_neg h16];exact sel_bound h0 ht hp
   ·rw[if_neg hc];exact nil _
theorem LabelParses_pure:LabelParses.Pure:=by
 intro x _ _
 unfold F6
 have e:∀o:Option Bool,(∃b,o=some b)→(o.bind fun o1=>(if o1=true then(F12).bind fun t5=>some t5 else(F24 x).bind fun t6=>(F25 x).bind fun t7=>(((if t6.2=t7.2 then(F26 t6.1 t7.1).bind fun t10=>(if t10=true then(F12).bind fun t12=>some t12 else some false)else some false)).bind fun o8=>some o8)))=some true:=by
  rintro _ ⟨b,rfl⟩
  rw[Option.bind_some,F12_t,F24_t,F25_t]
  have hb:=parseL_bound x
  simp only[Option.bind_some,if_true]
  rw[F26_t (by omega) (fun q hq=>by have:=hb.2 q hq;omega)]
  cases b<;>rfl
 refine e _ ?_
 split
 ·split
  ·exact⟨_,rfl⟩
  ·exact⟨_,rfl⟩
 ·exact⟨_,rfl⟩
end Go.Proofs.Ytadhmlfnfgpjjaa
