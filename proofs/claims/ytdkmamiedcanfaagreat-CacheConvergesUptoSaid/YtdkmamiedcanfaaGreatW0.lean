/- Each Go function as a function over typed data, and its walk. -/
import Derived.Test.YtdkmamiedcanfaaGreatFE
import Derived.Ground.NamesProg
import Derived.Shelf.Lay
import Derived.KernelRfl
import Derived.Test.YtdkmamiedcanfaaGreatProg
namespace Go.Proofs.YtdkmamiedcanfaaGreat
open Go Go.Fw Go.Shelf
set_option maxRecDepth 100000
set_option maxHeartbeats 4000000
set_option linter.unusedSimpArgs false
set_option linter.unusedVariables false
mutual
structure Ay where
 Name:ByteArray
 V:Ab
structure Ab where
 Kind:Int
 N:Int
 S:ByteArray
 At:(List Ab)
 Ae:(List Ay)
end
mutual
def Ao:Ay→List D
 |⟨a0,a1⟩=>[.v (.string a0)]++(Ap a1)
def HH:List Ay→List (List D)
 |[]=>[]
 |x::r=>Ao x::HH r
def Ap:Ab→List D
 |⟨a0,a1,a2,a3,a4⟩=>[.v (.int .i64 a0)]++[.v (.int .i64 a1)]++[.v (.string a2)]++[.sl (HG a3)]++[.sl (HH a4)]
def HG:List Ab→List (List D)
 |[]=>[]
 |x::r=>Ap x::HG r
end
mutual
def DM:Ay→Prop
 |⟨a0,a1⟩=>okT a0∧CN a1∧True
def Ga:List Ay→Prop
 |[]=>True
 |x::r=>DM x∧Ga r
def CN:Ab→Prop
 |⟨a0,a1,a2,a3,a4⟩=>okN a0∧okN a1∧okT a2∧F9 a3∧Ga a4∧True
def F9:List Ab→Prop
 |[]=>True
 |x::r=>CN x∧F9 r
end
mutual
def CZ:Ay→Nat
 |⟨a0,a1⟩=>wS a0+(AK a1+0)+1
def GW:List Ay→Nat
 |[]=>1
 |x::r=>CZ x+GW r
def AK:Ab→Nat
 |⟨a0,a1,a2,a3,a4⟩=>wN a0+(wN a1+(wS a2+(GV a3+(GW a4+0))))+1
def GV:List Ab→Nat
 |[]=>1
 |x::r=>AK x+GV r
end
theorem Dy:∀l:List Ay,HH l=l.map Ao
 |[]=>by rw[HH];rfl
 |x::r=>by rw[HH,Dy r];rfl
theorem Dh:∀l:List Ay,Ga l↔okL DM l
 |[]=>by rw[Ga];simp[okL]
 |x::r=>by rw[Ga,Dh r];simp[okL]
theorem DJ:∀l:List Ay,GW l=wL CZ l
 |[]=>by rw[GW];simp[wL]
 |x::r=>by rw[GW,DJ r];simp[wL,Nat.add_assoc]
theorem Dx:∀l:List Ab,HG l=l.map Ap
 |[]=>by rw[HG];rfl
 |x::r=>by rw[HG,Dx r];rfl
theorem Dg:∀l:List Ab,F9 l↔okL CN l
 |[]=>by rw[F9];simp[okL]
 |x::r=>by rw[F9,Dg r];simp[okL]
theorem DI:∀l:List Ab,GV l=wL AK l
 |[]=>by rw[GV];simp[wL]
 |x::r=>by rw[GV,DI r];simp[wL,Nat.add_assoc]
theorem Cq(x:Ab):Ap x=[.v (.int .i64 x.Kind),.v (.int .i64 x.N),.v (.string x.S),.sl (x.At.map Ap),.sl (x.Ae.map Ao)]:=by
 obtain⟨a0,a1,a2,a3,a4⟩:=x
 simp only[Ap,Dy,Dx,List.cons_append,List.nil_append]
theorem Xz(x:Ab):CN x↔(okN x.Kind∧okN x.N∧okT x.S∧(okL CN) x.At∧(okL DM) x.Ae∧True):=by
 obtain⟨a0,a1,a2,a3,a4⟩:=x
 simp only[CN,Dh,Dg]
theorem Bu(x:Ab):AK x=wN x.Kind+(wN x.N+(wS x.S+((wL AK) x.At+((wL CZ) x.Ae+0))))+1:=by
 obtain⟨a0,a1,a2,a3,a4⟩:=x
 simp only[AK,DJ,DI]
theorem BA(x:Ay):Ao x=[.v (.string x.Name),.v (.int .i64 x.V.Kind),.v (.int .i64 x.V.N),.v (.string x.V.S),.sl (x.V.At.map Ap),.sl (x.V.Ae.map Ao)]:=by
 obtain⟨a0,a1⟩:=x
 simp only[Ao,Dy,Dx,Cq,List.cons_append,List.nil_append]
theorem XA(x:Ay):DM x↔(okT x.Name∧CN x.V∧True):=by
 obtain⟨a0,a1⟩:=x
 simp only[DM,Dh,Dg]
theorem E0(x:Ay):CZ x=wS x.Name+(AK x.V+0)+1:=by
 obtain⟨a0,a1⟩:=x
 simp only[CZ,DJ,DI]
structure Label where
 Key:ByteArray
 Value:ByteArray
 deriving DecidableEq
def N3(x:Label):Prop:=okT x.Key∧okT x.Value∧True
def E4(x:Label):Nat:=wS x.Key+(wS x.Value+0)+1
def AY(x:Label):List D:=[.v (.string x.Key),.v (.string x.Value)]
structure BO where
 Kind:ByteArray
 Name:ByteArray
 Uid:Int
 BL:Bool
 Block:Bool
 deriving DecidableEq
def N2(x:BO):Prop:=okT x.Kind∧okT x.Name∧okN x.Uid∧okT x.BL∧okT x.Block∧True
def E3(x:BO):Nat:=wS x.Kind+(wS x.Name+(wN x.Uid+(wN x.BL+(wN x.Block+0))))+1
def A3(x:BO):List D:=[.v (.string x.Kind),.v (.string x.Name),.v (.int .i64 x.Uid),.v (.bool x.BL),.v (.bool x.Block)]
structure AI where
 Name:ByteArray
 Ae:(List ByteArray)
 deriving DecidableEq
def Kj(x:AI):Prop:=okT x.Name∧(okL okT) x.Ae∧True
def Dk(x:AI):Nat:=wS x.Name+((wL wS) x.Ae+0)+1
def AG(x:AI):List D:=[.v (.string x.Name),.sl (x.Ae.map eS)]
structure Meta where
 Kind:ByteArray
 Namespace:ByteArray
 Name:ByteArray
 Uid:Int
 Version:Int
 Ai:Int
 Created:Int
 Av:Bool
 Ar:Int
 Ax:(List Label)
 AF:(List BO)
 Au:(List ByteArray)
 Aj:(List AI)
 deriving DecidableEq
def Q6(x:Meta):Prop:=okT x.Kind∧okT x.Namespace∧okT x.Name∧okN x.Uid∧okN x.Version∧okN x.Ai∧okN x.Created∧okT x.Av∧okN x.Ar∧(okL N3) x.Ax∧(okL N2) x.AF∧(okL okT) x.Au∧(okL Kj) x.Aj∧True
def I1(x:Meta):Nat:=wS x.Kind+(wS x.Namespace+(wS x.Name+(wN x.Uid+(wN x.Version+(wN x.Ai+(wN x.Created+(wN x.Av+(wN x.Ar+((wL E4) x.Ax+((wL E3) x.AF+((wL wS) x.Au+((wL Dk) x.Aj+0))))))))))))+1
def Vj(x:Meta):List D:=[.v (.string x.Kind),.v (.string x.Namespace),.v (.string x.Name),.v (.int .i64 x.Uid),.v (.int .i64 x.Version),.v (.int .i64 x.Ai),.v (.int .i64 x.Created),.v (.bool x.Av),.v (.int .i64 x.Ar),.sl (x.Ax.map AY),.sl (x.AF.map A3),.sl (x.Au.map eS),.sl (x.Aj.map AG)]
structure Object where
 Meta:Meta
 Spec:Ab
 Status:Ab
def EI(x:Object):Prop:=Q6 x.Meta∧CN x.Spec∧CN x.Status∧True
def Cy(x:Object):Nat:=I1 x.Meta+(AK x.Spec+(AK x.Status+0))+1
def Ad(x:Object):List D:=[.v (.string x.Meta.Kind),.v (.string x.Meta.Namespace),.v (.string x.Meta.Name),.v (.int .i64 x.Meta.Uid),.v (.int .i64 x.Meta.Version),.v (.int .i64 x.Meta.Ai),.v (.int .i64 x.Meta.Created),.v (.bool x.Meta.Av),.v (.int .i64 x.Meta.Ar),.sl (x.Meta.Ax.map AY),.sl (x.Meta.AF.map A3),.sl (x.Meta.Au.map eS),.sl (x.Meta.Aj.map AG),.v (.int .i64 x.Spec.Kind),.v (.int .i64 x.Spec.N),.v (.string x.Spec.S),.sl (x.Spec.At.map Ap),.sl (x.Spec.Ae.map Ao),.v (.int .i64 x.Status.Kind),.v (.int .i64 x.Status.N),.v (.string x.Status.S),.sl (x.Status.At.map Ap),.sl (x.Status.Ae.map Ao)]
structure TOp where
 Kind:Int
 O:Object
 Key:ByteArray
 Version:Int
 Now:Int
 Rev:Int
def Nb(x:TOp):Prop:=okN x.Kind∧EI x.O∧okT x.Key∧okN x.Version∧okN x.Now∧okN x.Rev∧True
def GQ(x:TOp):Nat:=wN x.Kind+(Cy x.O+(wS x.Key+(wN x.Version+(wN x.Now+(wN x.Rev+0)))))+1
def EX(x:TOp):List D:=[.v (.int .i64 x.Kind),.v (.string x.O.Meta.Kind),.v (.string x.O.Meta.Namespace),.v (.string x.O.Meta.Name),.v (.int .i64 x.O.Meta.Uid),.v (.int .i64 x.O.Meta.Version),.v (.int .i64 x.O.Meta.Ai),.v (.int .i64 x.O.Meta.Created),.v (.bool x.O.Meta.Av),.v (.int .i64 x.O.Meta.Ar),.sl (x.O.Meta.Ax.map AY),.sl (x.O.Meta.AF.map A3),.sl (x.O.Meta.Au.map eS),.sl (x.O.Meta.Aj.map AG),.v (.int .i64 x.O.Spec.Kind),.v (.int .i64 x.O.Spec.N),.v (.string x.O.Spec.S),.sl (x.O.Spec.At.map Ap),.sl (x.O.Spec.Ae.map Ao),.v (.int .i64 x.O.Status.Kind),.v (.int .i64 x.O.Status.N),.v (.string x.O.Status.S),.sl (x.O.Status.At.map Ap),.sl (x.O.Status.Ae.map Ao),.v (.string x.Key),.v (.int .i64 x.Version),.v (.int .i64 x.Now),.v (.int .i64 x.Rev)]
structure Ah where
 Key:ByteArray
 Op:Int
 Aq:(List ByteArray)
 deriving DecidableEq
def FE(x:Ah):Prop:=okT x.Key∧okN x.Op∧(okL okT) x.Aq∧True
def B9(x:Ah):Nat:=wS x.Key+(wN x.Op+((wL wS) x.Aq+0))+1
def Al(x:Ah):List D:=[.v (.string x.Key),.v (.int .i64 x.Op),.sl (x.Aq.map eS)]
structure Filter where
 Kind:ByteArray
 Namespace:ByteArray
 Selector:(List Ah)
 deriving DecidableEq
def Jt(x:Filter):Prop:=okT x.Kind∧okT x.Namespace∧(okL FE) x.Selector∧True
def Ft(x:Filter):Nat:=wS x.Kind+(wS x.Namespace+((wL B9) x.Selector+0))+1
def Om(x:Filter):List D:=[.v (.string x.Kind),.v (.string x.Namespace),.sl (x.Selector.map Al)]
structure Cache where
 Filter:Filter
 Rev:Int
 Bq:Bool
 Aa:(List Object)
def Ic(x:Cache):Prop:=Jt x.Filter∧okN x.Rev∧okT x.Bq∧(okL EI) x.Aa∧True
def FD(x:Cache):Nat:=Ft x.Filter+(wN x.Rev+(wN x.Bq+((wL Cy) x.Aa+0)))+1
def Mk(x:Cache):List D:=[.v (.string x.Filter.Kind),.v (.string x.Filter.Namespace),.sl (x.Filter.Selector.map Al),.v (.int .i64 x.Rev),.v (.bool x.Bq),.sl (x.Aa.map Ad)]
structure Change where
 Rev:Int
 Kind:Int
 Object:Object
def UO(x:Change):Prop:=okN x.Rev∧okN x.Kind∧EI x.Object∧True
def VX(x:Change):Nat:=wN x.Rev+(wN x.Kind+(Cy x.Object+0))+1
def A9(x:Change):List D:=[.v (.int .i64 x.Rev),.v (.int .i64 x.Kind),.v (.string x.Object.Meta.Kind),.v (.string x.Object.Meta.Namespace),.v (.string x.Object.Meta.Name),.v (.int .i64 x.Object.Meta.Uid),.v (.int .i64 x.Object.Meta.Version),.v (.int .i64 x.Object.Meta.Ai),.v (.int .i64 x.Object.Meta.Created),.v (.bool x.Object.Meta.Av),.v (.int .i64 x.Object.Meta.Ar),.sl (x.Object.Meta.Ax.map AY),.sl (x.Object.Meta.AF.map A3),.sl (x.Object.Meta.Au.map eS),.sl (x.Object.Meta.Aj.map AG),.v (.int .i64 x.Object.Spec.Kind),.v (.int .i64 x.Object.Spec.N),.v (.string x.Object.Spec.S),.sl (x.Object.Spec.At.map Ap),.sl (x.Object.Spec.Ae.map Ao),.v (.int .i64 x.Object.Status.Kind),.v (.int .i64 x.Object.Status.N),.v (.string x.Object.Status.S),.sl (x.Object.Status.At.map Ap),.sl (x.Object.Status.Ae.map Ao)]
structure Ag where
 Rev:Int
 As:Int
 Am:Int
 Bt:(List Object)
 Aa:(List Object)
 Ac:(List Change)
def Yj(x:Ag):Prop:=okN x.Rev∧okN x.As∧okN x.Am∧(okL EI) x.Bt∧(okL EI) x.Aa∧(okL UO) x.Ac∧True
def Yy(x:Ag):Nat:=wN x.Rev+(wN x.As+(wN x.Am+((wL Cy) x.Bt+((wL Cy) x.Aa+((wL VX) x.Ac+0)))))+1
def WK(x:Ag):List D:=[.v (.int .i64 x.Rev),.v (.int .i64 x.As),.v (.int .i64 x.Am),.sl (x.Bt.map Ad),.sl (x.Aa.map Ad),.sl (x.Ac.map A9)]
structure Event where
 Bl:Int
 Rev:Int
 Object:Object
def Yz(x:Event):Prop:=okN x.Bl∧okN x.Rev∧EI x.Object∧True
def YN(x:Event):Nat:=wN x.Bl+(wN x.Rev+(Cy x.Object+0))+1
def Bp(x:Event):List D:=[.v (.int .i64 x.Bl),.v (.int .i64 x.Rev),.v (.string x.Object.Meta.Kind),.v (.string x.Object.Meta.Namespace),.v (.string x.Object.Meta.Name),.v (.int .i64 x.Object.Meta.Uid),.v (.int .i64 x.Object.Meta.Version),.v (.int .i64 x.Object.Meta.Ai),.v (.int .i64 x.Object.Meta.Created),.v (.bool x.Object.Meta.Av),.v (.int .i64 x.Object.Meta.Ar),.sl (x.Object.Meta.Ax.map AY),.sl (x.Object.Meta.AF.map A3),.sl (x.Object.Meta.Au.map eS),.sl (x.Object.Meta.Aj.map AG),.v (.int .i64 x.Object.Spec.Kind),.v (.int .i64 x.Object.Spec.N),.v (.string x.Object.Spec.S),.sl (x.Object.Spec.At.map Ap),.sl (x.Object.Spec.Ae.map Ao),.v (.int .i64 x.Object.Status.Kind),.v (.int .i64 x.Object.Status.N),.v (.string x.Object.Status.S),.sl (x.Object.Status.At.map Ap),.sl (x.Object.Status.Ae.map Ao)]
structure Ck where
 Filter:Filter
 Rev:Int
 deriving DecidableEq
def XY(x:Ck):Prop:=Jt x.Filter∧okN x.Rev∧True
def X8(x:Ck):Nat:=Ft x.Filter+(wN x.Rev+0)+1
def Vi(x:Ck):List D:=[.v (.string x.Filter.Kind),.v (.string x.Filter.Namespace),.sl (x.Filter.Selector.map Al),.v (.int .i64 x.Rev)]
structure OD where
 a0:ByteArray
 a1:ByteArray
 a2:ByteArray
 deriving DecidableEq
def XZ(x:OD):Prop:=okT x.a0∧okT x.a1∧okT x.a2∧True
def X9(x:OD):Nat:=wS x.a0+(wS x.a1+(wS x.a2+0))+1
def Vk(x:OD):List D:=[.v (.string x.a0),.v (.string x.a1),.v (.string x.a2)]
def EE:=PLift.up (And.intro (And.intro (And.intro (And.intro @eI.eq_1 @eB.eq_1) (And.intro @eS.eq_1 (And.intro @eK.eq_1 @eL.eq_1))) (And.intro (And.intro @BA @Cq) (And.intro @AY.eq_1 (And.intro @A3.eq_1 @AG.eq_1)))) (And.intro (And.intro (And.intro @Vj.eq_1 @Ad.eq_1) (And.intro @EX.eq_1 (And.intro @Al.eq_1 @Om.eq_1))) (And.intro (And.intro @Mk.eq_1 (And.intro @A9.eq_1 @WK.eq_1)) (And.intro @Bp.eq_1 (And.intro @Vi.eq_1 @Vk.eq_1)))))
theorem eM{n m:Nat}{Q:XT→St→Prop}{R:St→Prop}{s':St}{sl:List (Nat×AV)}{H':List (Option Blk)}(σ:Src)(hR:R ⟨sl,H'⟩)(hB:ID s'.heap σ H' σ H':=by simp only[ZZ.down,Nat.reduceEqDiff,reduceCtorEq,Nat.reduceAdd,Nat.reduceLeDiff,Nat.reduceLT,Nat.reduceBNe,EE.down])(hk:Iw 0 (s'.heap.take m) σ H':=by simp only[ZZ.down,Nat.reduceEqDiff,reduceCtorEq,Nat.reduceAdd,Nat.reduceLeDiff,Nat.reduceLT,Nat.reduceBNe,EE.down])(hs:Lq s'.heap σ H' s'.Ak sl:=by simp only[ZZ.down,Nat.reduceEqDiff,reduceCtorEq,Nat.reduceAdd,Nat.reduceLeDiff,Nat.reduceLT,Nat.reduceBNe,EE.down])(hn:FF σ=true:=by rfl):sM n m R Q .normal s':=YR σ ⟨hB,hn,hk⟩ hs hR
theorem eL'{n m:Nat}{Q:XT→St→Prop}{I:Nat→St→Prop}{j:Nat}(k':Nat){s':St}{sl:List (Nat×AV)}{H':List (Option Blk)}(σ:Src)(hI:I k' ⟨sl,H'⟩)(hj:k'<j)(hB:ID s'.heap σ H' σ H':=by simp only[ZZ.down,Nat.reduceEqDiff,reduceCtorEq,Nat.reduceAdd,Nat.reduceLeDiff,Nat.reduceLT,Nat.reduceBNe,EE.down])(hk:Iw 0 (s'.heap.take m) σ H':=by simp only[ZZ.down,Nat.reduceEqDiff,reduceCtorEq,Nat.reduceAdd,Nat.reduceLeDiff,Nat.reduceLT,Nat.reduceBNe,EE.down])(hs:Lq s'.heap σ H' s'.Ak sl:=by simp only[ZZ.down,Nat.reduceEqDiff,reduceCtorEq,Nat.reduceAdd,Nat.reduceLeDiff,Nat.reduceLT,Nat.reduceBNe,EE.down])(hn:FF σ=true:=by rfl):sL n m I j Q .normal s':=YS k' hj σ ⟨hB,hn,hk⟩ hs hI
theorem bL{P:Program}{n m:Nat}{Q:XT→St→Prop}{s:St}{k:List Frm}{body:AC}(I:Nat→St→Prop)(k0:Nat){sl:List (Nat×AV)}{H':List (Option Blk)}(σ:Src)(hI:I k0 ⟨sl,H'⟩)(hr:∀j s,I j s→sK P n m body [] (sL n m I j (sU P n m k Q)) s)(hB:ID s.heap σ H' σ H':=by simp only[ZZ.down,Nat.reduceEqDiff,reduceCtorEq,Nat.reduceAdd,Nat.reduceLeDiff,Nat.reduceLT,Nat.reduceBNe,EE.down])(hk:Iw 0 (s.heap.take m) σ H':=by simp only[ZZ.down,Nat.reduceEqDiff,reduceCtorEq,Nat.reduceAdd,Nat.reduceLeDiff,Nat.reduceLT,Nat.reduceBNe,EE.down])(hs:Lq s.heap σ H' s.Ak sl:=by simp only[ZZ.down,Nat.reduceEqDiff,reduceCtorEq,Nat.reduceAdd,Nat.reduceLeDiff,Nat.reduceLT,Nat.reduceBNe,EE.down])(hn:FF σ=true:=by rfl):WpC P n m (.loop body) (sU P n m k Q) s:=YT I k0 σ ⟨hB,hn,hk⟩ hs hI hr
theorem eF{m:Nat}{h:List (Option Blk)}{l res:List A1}{H':List (Option Blk)}(σ:Src)(hB:ID h σ H' σ H':=by simp only[ZZ.down,Nat.reduceEqDiff,reduceCtorEq,Nat.reduceAdd,Nat.reduceLeDiff,Nat.reduceLT,Nat.reduceBNe,EE.down])(hk:Iw 0 (h.take m) σ H':=by simp only[ZZ.down,Nat.reduceEqDiff,reduceCtorEq,Nat.reduceAdd,Nat.reduceLeDiff,Nat.reduceLT,Nat.reduceBNe,EE.down])(hs:ON h σ H' res l:=by simp only[ZZ.down,Nat.reduceEqDiff,reduceCtorEq,Nat.reduceAdd,Nat.reduceLeDiff,Nat.reduceLT,Nat.reduceBNe,EE.down])(hn:FF σ=true:=by rfl):Fin m h l res H':=XM σ ⟨hB,hn,hk⟩ hs
abbrev dI(n:Int):C:= .d (.v (.int .i64 n))
abbrev dS(s:ByteArray):C:= .d (.v (.string s))
abbrev dB(b:Bool):C:= .d (.v (.bool b))
abbrev dN:C:= .d (.v (.slice none 0 0))
abbrev dM(l:List (List D)):C:= .d (.sl l)
abbrev sq(d:Nat)(op:AOp):B6:=⟨some d,none,op,[],.new []⟩
abbrev su(op:AOp):B6:=⟨none,none,op,[],.new []⟩
abbrev sd(d:Nat)(op:AOp)(b:List Nat):B6:=⟨some d,none,op,b,.new []⟩
abbrev zn(d:Nat)(op:AOp)(b l:List Nat):B6:=⟨some d,none,op,b,.new l⟩
abbrev zl(d:Nat)(op:AOp)(b l:List Nat):B6:=⟨some d,none,op,b,.lone l⟩
abbrev zg(d g:Nat)(w:Bool)(op:AOp):B6:=⟨some d,some (g,w),op,[],.new []⟩
theorem ww{p q:Prop}(hq:q)(h:p=q:=by first|(simp only[VW.down,Nat.reduceEqDiff,reduceCtorEq,Nat.reduceAdd,Nat.reduceLeDiff,Nat.reduceLT,Nat.reduceBEq,Nat.reduceSub,EE.down];rfl)|rfl):p:=Eq.mpr h hq
abbrev Qa(d t:Nat):=sq d (.mv (.t t))
abbrev oc(x:C):AV:= .one (.c x)
abbrev Pz(i:Nat):AV:= .one (.c (.pt i 0))
abbrev xb(l:List C):Option Blk:=some (.box l)
abbrev Qb(d f t:Nat):=sq d (.fieldA f (.t t))
abbrev Qc(d n t:Nat):=sq d (.load (some n) (.t t))
abbrev Qd(d t:Nat):=sq d (.load none (.t t))
abbrev Qe(d:Nat)(n:Int):=sq d (.mv (kI n))
abbrev Qf(d:Nat)(b:Bool):=sq d (.mv (kB b))
abbrev Qg(d t:Nat):=sq d (.box (.t t))
abbrev Qh(d t:Nat):=sq d (.len (.t t))
abbrev Qi(d t u:Nat):=sq d (.pick (.t t) (.t u) (kB false))
abbrev Qj(d t u:Nat):=sq d (.pick (.t t) (kB true) (.t u))
abbrev Qk(d f t:Nat):=sq d (.call f [(.t t)])
abbrev Ql(d f t u:Nat):=sq d (.call f [(.t t),(.t u)])
abbrev Qm(d t:Nat)(n:Int):=sq d (.bin .add (.t t) (kI n))
abbrev Qn(d t u:Nat):=sq d (.bin .lss (.t t) (.t u))
abbrev Qo(d t n:Nat):=sq d (.ext (.t t) n)
abbrev Qp(d n t u:Nat):=sq d (.indexA n (.t t) (.t u))
abbrev Qq(d t:Nat):=sq d (.not (.t t))
abbrev Qr(d t:Nat)(n:Int):=sq d (.bin .eql (.t t) (kI n))
abbrev Qs(d g:Nat)(w:Bool)(f t:Nat):=zg d g w (.fieldA f (.t t))
abbrev Qt(d g:Nat)(w:Bool)(t:Nat):=zg d g w (.load none (.t t))
abbrev Qu(d g:Nat)(w:Bool)(n t:Nat):=zg d g w (.load (some n) (.t t))
abbrev Qv(d g:Nat)(w:Bool)(t:Nat):=zg d g w (.mv (.t t))
theorem zc{P:Program}{f:FuncId}(A:AFn){n:Nat}{rvs:List RV}{c:AC}{args:List A1}{H H':List (Option Blk)}{res:List A1}(hf:afn P f=some A.er)(hA:A=⟨n,rvs,c⟩)(h:sK P n H.length c [] (sE H.length rvs res H') ⟨Ds 0 args,H⟩)(hl:Nat.ble args.length n=true:=by rfl):An P f args H (AL res) H':=by subst hA;exact SB hf (Nat.le_of_ble_eq_true hl) h
theorem bi{α β:Type}{b:β}{x:Option α}{f:α→Option β}(h:x.bind f=some b):∃a,x=some a∧f a=some b:=Option.bind_eq_some_iff.1 h
theorem cN{P:Program}{f:FuncId}{as':List A1}{H H':List (Option Blk)}{res:AV}{as0:List A1}{s:St}{K:Out→Prop}(ρ:List Nat)
 (hc:An P f as' H res H') (hH:Js s.heap (rn ρ s.heap.length) (hp H) 0 H) (hK:K ⟨some (res.ren (rn ρ s.heap.length)),Dn 0 H' (rn ρ s.heap.length)⟩)
 (has:as0.map Tk=as'.map (A1.ren (rn ρ s.heap.length)):=by first|rfl|simp[Tk,UR,nrm,A1.ren,C.ren,rn,List.length_set]) (hlive:Cj (hp H) as':=by simp[Cj,A1.live,C.live,hp]) (hρ:ρ.length=H.length:=by rfl) (hnd:ρ.Nodup:=by decide):J0 P f as0 s K:=
 WO ρ hc has hlive hρ hnd hH hK
section
variable {P:Program} {n m:Nat} {Q:XT→St→Prop} {a b:AC} {k:List Frm} {s:St} {α:Type} {x y:Option α} {r:Option α}
theorem AH{p:Prop}[Decidable p](h:(if p then x else y)=r)(h1:p→x=r→sK P n m a k Q s)(h0:¬p→y=r→sK P n m b k Q s):sC P n m (decide p) a b k Q s:=
 Bg (fun c=>h1 c ((if_pos c).symm.trans h)) fun c=>h0 c ((if_neg c).symm.trans h)
theorem AE{t:Bool}(h:(if t=true then x else y)=r)(h1:t=true→x=r→sK P n m a k Q s)(h0:¬t=true→y=r→sK P n m b k Q s):sC P n m t a b k Q s:=
 Yq (fun c=>h1 c ((if_pos c).symm.trans h)) fun c=>h0 c ((if_neg c).symm.trans h)
end
section
variable {P:Program} {dst:Option Nat} {op:AOp} {bef:List Nat} {lone:Lone} {rr:List B6} {s:St} {K:St→Prop} {g:Nat} {want:Bool} {hh:List (Option Blk)} {i:Nat} {Ak:List (Nat×AV)} {wl:List (Nat×List (Nat×Blk))} {α:Type} {x y:Option α} {r:Option α}
theorem Af{p:Prop}[Decidable p](h:(if p then x else y)=r)(h1:p→x=r→sG P true want dst op rr g s K)(h0:¬p→y=r→sG P false want dst op rr g s K):sG P (decide p) want dst op rr g s K:=
 XJ (fun c=>h1 c ((if_pos c).symm.trans h)) fun c=>h0 c ((if_neg c).symm.trans h)
theorem AM{t:Bool}(h:(if t=true then x else y)=r)(h1:t=true→x=r→sG P true want dst op rr g s K)(h0:¬t=true→y=r→sG P false want dst op rr g s K):sG P t want dst op rr g s K:=
 WG (fun c=>h1 c ((if_pos c).symm.trans h)) fun c=>h0 c ((if_neg c).symm.trans h)
theorem B4{p:Prop}[Decidable p](h:(if p then x else y)=r)(h1:p→x=r→sGD P hh true want dst op bef lone rr i g Ak wl K)(h0:¬p→y=r→sGD P hh false want dst op bef lone rr i g Ak wl K):sGD P hh (decide p) want dst op bef lone rr i g Ak wl K:=
 XK (fun c=>h1 c ((if_pos c).symm.trans h)) fun c=>h0 c ((if_neg c).symm.trans h)
theorem Cm{t:Bool}(h:(if t=true then x else y)=r)(h1:t=true→x=r→sGD P hh true want dst op bef lone rr i g Ak wl K)(h0:¬t=true→y=r→sGD P hh false want dst op bef lone rr i g Ak wl K):sGD P hh t want dst op bef lone rr i g Ak wl K:=
 WH (fun c=>h1 c ((if_pos c).symm.trans h)) fun c=>h0 c ((if_neg c).symm.trans h)
end
abbrev SE(x:Ay):List C:=[dS x.Name,dI x.V.Kind,dI x.V.N,dS x.V.S,dM (x.V.At.map Ap),dM (x.V.Ae.map Ao)]
abbrev AJ(x:Ab):List C:=[dI x.Kind,dI x.N,dS x.S,dM (x.At.map Ap),dM (x.Ae.map Ao)]
abbrev XV(x:BO):List C:=[dS x.Kind,dS x.Name,dI x.Uid,dB x.BL,dB x.Block]
abbrev CT(x:Meta):List C:=[dS x.Kind,dS x.Namespace,dS x.Name,dI x.Uid,dI x.Version,dI x.Ai,dI x.Created,dB x.Av,dI x.Ar,dM (x.Ax.map AY),dM (x.AF.map A3),dM (x.Au.map eS),dM (x.Aj.map AG)]
abbrev Bc(x:Object):List C:=[dS x.Meta.Kind,dS x.Meta.Namespace,dS x.Meta.Name,dI x.Meta.Uid,dI x.Meta.Version,dI x.Meta.Ai,dI x.Meta.Created,dB x.Meta.Av,dI x.Meta.Ar,dM (x.Meta.Ax.map AY),dM (x.Meta.AF.map A3),dM (x.Meta.Au.map eS),dM (x.Meta.Aj.map AG),dI x.Spec.Kind,dI x.Spec.N,dS x.Spec.S,dM (x.Spec.At.map Ap),dM (x.Spec.Ae.map Ao),dI x.Status.Kind,dI x.Status.N,dS x.Status.S,dM (x.Status.At.map Ap),dM (x.Status.Ae.map Ao)]
abbrev WS(x:TOp):List C:=[dI x.Kind,dS x.O.Meta.Kind,dS x.O.Meta.Namespace,dS x.O.Meta.Name,dI x.O.Meta.Uid,dI x.O.Meta.Version,dI x.O.Meta.Ai,dI x.O.Meta.Created,dB x.O.Meta.Av,dI x.O.Meta.Ar,dM (x.O.Meta.Ax.map AY),dM (x.O.Meta.AF.map A3),dM (x.O.Meta.Au.map eS),dM (x.O.Meta.Aj.map AG),dI x.O.Spec.Kind,dI x.O.Spec.N,dS x.O.Spec.S,dM (x.O.Spec.At.map Ap),dM (x.O.Spec.Ae.map Ao),dI x.O.Status.Kind,dI x.O.Status.N,dS x.O.Status.S,dM (x.O.Status.At.map Ap),dM (x.O.Status.Ae.map Ao),dS x.Key,dI x.Version,dI x.Now,dI x.Rev]
abbrev By(x:Ah):List C:=[dS x.Key,dI x.Op,dM (x.Aq.map eS)]
abbrev Bj(x:Filter):List C:=[dS x.Kind,dS x.Namespace,dM (x.Selector.map Al)]
abbrev Ch(x:Cache):List C:=[dS x.Filter.Kind,dS x.Filter.Namespace,dM (x.Filter.Selector.map Al),dI x.Rev,dB x.Bq,dM (x.Aa.map Ad)]
abbrev EY(x:Change):List C:=[dI x.Rev,dI x.Kind,dS x.Object.Meta.Kind,dS x.Object.Meta.Namespace,dS x.Object.Meta.Name,dI x.Object.Meta.Uid,dI x.Object.Meta.Version,dI x.Object.Meta.Ai,dI x.Object.Meta.Created,dB x.Object.Meta.Av,dI x.Object.Meta.Ar,dM (x.Object.Meta.Ax.map AY),dM (x.Object.Meta.AF.map A3),dM (x.Object.Meta.Au.map eS),dM (x.Object.Meta.Aj.map AG),dI x.Object.Spec.Kind,dI x.Object.Spec.N,dS x.Object.Spec.S,dM (x.Object.Spec.At.map Ap),dM (x.Object.Spec.Ae.map Ao),dI x.Object.Status.Kind,dI x.Object.Status.N,dS x.Object.Status.S,dM (x.Object.Status.At.map Ap),dM (x.Object.Status.Ae.map Ao)]
abbrev AO(x:Ag):List C:=[dI x.Rev,dI x.As,dI x.Am,dM (x.Bt.map Ad),dM (x.Aa.map Ad),dM (x.Ac.map A9)]
abbrev Ry(x:Event):List C:=[dI x.Bl,dI x.Rev,dS x.Object.Meta.Kind,dS x.Object.Meta.Namespace,dS x.Object.Meta.Name,dI x.Object.Meta.Uid,dI x.Object.Meta.Version,dI x.Object.Meta.Ai,dI x.Object.Meta.Created,dB x.Object.Meta.Av,dI x.Object.Meta.Ar,dM (x.Object.Meta.Ax.map AY),dM (x.Object.Meta.AF.map A3),dM (x.Object.Meta.Au.map eS),dM (x.Object.Meta.Aj.map AG),dI x.Object.Spec.Kind,dI x.Object.Spec.N,dS x.Object.Spec.S,dM (x.Object.Spec.At.map Ap),dM (x.Object.Spec.Ae.map Ao),dI x.Object.Status.Kind,dI x.Object.Status.N,dS x.Object.Status.S,dM (x.Object.Status.At.map Ap),dM (x.Object.Status.Ae.map Ao)]
abbrev DE(x:Ck):List C:=[dS x.Filter.Kind,dS x.Filter.Namespace,dM (x.Filter.Selector.map Al),dI x.Rev]
end Go.Proofs.YtdkmamiedcanfaaGreat
