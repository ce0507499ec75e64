/- Each Go function as a function over typed data, and its walk. -/
import Derived.Test.YtdejhahgpojnoaaFE
import Derived.Ground.NamesProg
import Derived.Shelf.Lay
import Derived.KernelRfl
import Derived.Test.YtdejhahgpojnoaaProg
namespace Go.Proofs.Ytdejhahgpojnoaa
open Go Go.Fw Go.Shelf
set_option maxRecDepth 100000
set_option maxHeartbeats 4000000
set_option linter.unusedSimpArgs false
set_option linter.unusedVariables false
structure Label where
 Key:ByteArray
 Value:ByteArray
 deriving DecidableEq
def okLabel(x:Label):Prop:=okT x.Key∧okT x.Value∧True
def wLabel(x:Label):Nat:=wS x.Key+(wS x.Value+0)+1
def eLabel(x:Label):List D:=[.v (.string x.Key),.v (.string x.Value)]
structure Owner where
 Kind:ByteArray
 Name:ByteArray
 Uid:Int
 Controller:Bool
 Block:Bool
 deriving DecidableEq
def okOwner(x:Owner):Prop:=okT x.Kind∧okT x.Name∧okN x.Uid∧okT x.Controller∧okT x.Block∧True
def wOwner(x:Owner):Nat:=wS x.Kind+(wS x.Name+(wN x.Uid+(wN x.Controller+(wN x.Block+0))))+1
def eOwner(x:Owner):List D:=[.v (.string x.Kind),.v (.string x.Name),.v (.int .i64 x.Uid),.v (.bool x.Controller),.v (.bool x.Block)]
structure Manager where
 Name:ByteArray
 Fields:(List ByteArray)
 deriving DecidableEq
def okManager(x:Manager):Prop:=okT x.Name∧(okL okT) x.Fields∧True
def wManager(x:Manager):Nat:=wS x.Name+((wL wS) x.Fields+0)+1
def eManager(x:Manager):List D:=[.v (.string x.Name),.sl (x.Fields.map eS)]
structure Meta where
 Kind:ByteArray
 Namespace:ByteArray
 Name:ByteArray
 Uid:Int
 Version:Int
 Generation:Int
 Created:Int
 Deleting:Bool
 DeleteAt:Int
 Labels:(List Label)
 Owners:(List Owner)
 Finalizers:(List ByteArray)
 Managers:(List Manager)
 deriving DecidableEq
def okMeta(x:Meta):Prop:=okT x.Kind∧okT x.Namespace∧okT x.Name∧okN x.Uid∧okN x.Version∧okN x.Generation∧okN x.Created∧okT x.Deleting∧okN x.DeleteAt∧(okL okLabel) x.Labels∧(okL okOwner) x.Owners∧(okL okT) x.Finalizers∧(okL okManager) x.Managers∧True
def wMeta(x:Meta):Nat:=wS x.Kind+(wS x.Namespace+(wS x.Name+(wN x.Uid+(wN x.Version+(wN x.Generation+(wN x.Created+(wN x.Deleting+(wN x.DeleteAt+((wL wLabel) x.Labels+((wL wOwner) x.Owners+((wL wS) x.Finalizers+((wL wManager) x.Managers+0))))))))))))+1
def eMeta(x:Meta):List D:=[.v (.string x.Kind),.v (.string x.Namespace),.v (.string x.Name),.v (.int .i64 x.Uid),.v (.int .i64 x.Version),.v (.int .i64 x.Generation),.v (.int .i64 x.Created),.v (.bool x.Deleting),.v (.int .i64 x.DeleteAt),.sl (x.Labels.map eLabel),.sl (x.Owners.map eOwner),.sl (x.Finalizers.map eS),.sl (x.Managers.map eManager)]
mutual
structure TField where
 Name:ByteArray
 V:TValue
structure TValue where
 Kind:Int
 N:Int
 S:ByteArray
 List_:(List TValue)
 Fields:(List TField)
end
mutual
def eTField:TField→List D
 |⟨a0,a1⟩=>[.v (.string a0)]++(eTValue a1)
def eTFieldL:List TField→List (List D)
 |[]=>[]
 |x::r=>eTField x::eTFieldL r
def eTValue:TValue→List D
 |⟨a0,a1,a2,a3,a4⟩=>[.v (.int .i64 a0)]++[.v (.int .i64 a1)]++[.v (.string a2)]++[.sl (eTValueL a3)]++[.sl (eTFieldL a4)]
def eTValueL:List TValue→List (List D)
 |[]=>[]
 |x::r=>eTValue x::eTValueL r
end
mutual
def okTField:TField→Prop
 |⟨a0,a1⟩=>okT a0∧okTValue a1∧True
def okTFieldL:List TField→Prop
 |[]=>True
 |x::r=>okTField x∧okTFieldL r
def okTValue:TValue→Prop
 |⟨a0,a1,a2,a3,a4⟩=>okN a0∧okN a1∧okT a2∧okTValueL a3∧okTFieldL a4∧True
def okTValueL:List TValue→Prop
 |[]=>True
 |x::r=>okTValue x∧okTValueL r
end
mutual
def wTField:TField→Nat
 |⟨a0,a1⟩=>wS a0+(wTValue a1+0)+1
def wTFieldL:List TField→Nat
 |[]=>1
 |x::r=>wTField x+wTFieldL r
def wTValue:TValue→Nat
 |⟨a0,a1,a2,a3,a4⟩=>wN a0+(wN a1+(wS a2+(wTValueL a3+(wTFieldL a4+0))))+1
def wTValueL:List TValue→Nat
 |[]=>1
 |x::r=>wTValue x+wTValueL r
end
theorem eTFieldL_map:∀l:List TField,eTFieldL l=l.map eTField
 |[]=>by rw[eTFieldL];rfl
 |x::r=>by rw[eTFieldL,eTFieldL_map r];rfl
theorem okTFieldL_iff:∀l:List TField,okTFieldL l↔okL okTField l
 |[]=>by rw[okTFieldL];simp[okL]
 |x::r=>by rw[okTFieldL,okTFieldL_iff r];simp[okL]
theorem wTFieldL_eq:∀l:List TField,wTFieldL l=wL wTField l
 |[]=>by rw[wTFieldL];simp[wL]
 |x::r=>by rw[wTFieldL,wTFieldL_eq r];simp[wL,Nat.add_assoc]
theorem eTValueL_map:∀l:List TValue,eTValueL l=l.map eTValue
 |[]=>by rw[eTValueL];rfl
 |x::r=>by rw[eTValueL,eTValueL_map r];rfl
theorem okTValueL_iff:∀l:List TValue,okTValueL l↔okL okTValue l
 |[]=>by rw[okTValueL];simp[okL]
 |x::r=>by rw[okTValueL,okTValueL_iff r];simp[okL]
theorem wTValueL_eq:∀l:List TValue,wTValueL l=wL wTValue l
 |[]=>by rw[wTValueL];simp[wL]
 |x::r=>by rw[wTValueL,wTValueL_eq r];simp[wL,Nat.add_assoc]
theorem eTValue_u(x:TValue):eTValue x=[.v (.int .i64 x.Kind),.v (.int .i64 x.N),.v (.string x.S),.sl (x.List_.map eTValue),.sl (x.Fields.map eTField)]:=by
 obtain⟨a0,a1,a2,a3,a4⟩:=x
 simp only[eTValue,eTFieldL_map,eTValueL_map,List.cons_append,List.nil_append]
theorem okTValue_u(x:TValue):okTValue x↔(okN x.Kind∧okN x.N∧okT x.S∧(okL okTValue) x.List_∧(okL okTField) x.Fields∧True):=by
 obtain⟨a0,a1,a2,a3,a4⟩:=x
 simp only[okTValue,okTFieldL_iff,okTValueL_iff]
theorem wTValue_u(x:TValue):wTValue x=wN x.Kind+(wN x.N+(wS x.S+((wL wTValue) x.List_+((wL wTField) x.Fields+0))))+1:=by
 obtain⟨a0,a1,a2,a3,a4⟩:=x
 simp only[wTValue,wTFieldL_eq,wTValueL_eq]
theorem eTField_u(x:TField):eTField x=[.v (.string x.Name),.v (.int .i64 x.V.Kind),.v (.int .i64 x.V.N),.v (.string x.V.S),.sl (x.V.List_.map eTValue),.sl (x.V.Fields.map eTField)]:=by
 obtain⟨a0,a1⟩:=x
 simp only[eTField,eTFieldL_map,eTValueL_map,eTValue_u,List.cons_append,List.nil_append]
theorem okTField_u(x:TField):okTField x↔(okT x.Name∧okTValue x.V∧True):=by
 obtain⟨a0,a1⟩:=x
 simp only[okTField,okTFieldL_iff,okTValueL_iff]
theorem wTField_u(x:TField):wTField x=wS x.Name+(wTValue x.V+0)+1:=by
 obtain⟨a0,a1⟩:=x
 simp only[wTField,wTFieldL_eq,wTValueL_eq]
structure Object where
 Meta:Meta
 Spec:TValue
 Status:TValue
def okObject(x:Object):Prop:=okMeta x.Meta∧okTValue x.Spec∧okTValue x.Status∧True
def wObject(x:Object):Nat:=wMeta x.Meta+(wTValue x.Spec+(wTValue x.Status+0))+1
def eObject(x:Object):List D:=[.v (.string x.Meta.Kind),.v (.string x.Meta.Namespace),.v (.string x.Meta.Name),.v (.int .i64 x.Meta.Uid),.v (.int .i64 x.Meta.Version),.v (.int .i64 x.Meta.Generation),.v (.int .i64 x.Meta.Created),.v (.bool x.Meta.Deleting),.v (.int .i64 x.Meta.DeleteAt),.sl (x.Meta.Labels.map eLabel),.sl (x.Meta.Owners.map eOwner),.sl (x.Meta.Finalizers.map eS),.sl (x.Meta.Managers.map eManager),.v (.int .i64 x.Spec.Kind),.v (.int .i64 x.Spec.N),.v (.string x.Spec.S),.sl (x.Spec.List_.map eTValue),.sl (x.Spec.Fields.map eTField),.v (.int .i64 x.Status.Kind),.v (.int .i64 x.Status.N),.v (.string x.Status.S),.sl (x.Status.List_.map eTValue),.sl (x.Status.Fields.map eTField)]
structure TState where
 exists_:Bool
 orphans:Bool
 foreground:Bool
 depended:Bool
 blocked:Bool
 deriving DecidableEq
def okTState(x:TState):Prop:=okT x.exists_∧okT x.orphans∧okT x.foreground∧okT x.depended∧okT x.blocked∧True
def wTState(x:TState):Nat:=wN x.exists_+(wN x.orphans+(wN x.foreground+(wN x.depended+(wN x.blocked+0))))+1
def eTState(x:TState):List D:=[.v (.bool x.exists_),.v (.bool x.orphans),.v (.bool x.foreground),.v (.bool x.depended),.v (.bool x.blocked)]
structure GcAction where
 Kind:Int
 Key:ByteArray
 Uid:Int
 Owner:Int
 Name:ByteArray
 deriving DecidableEq
def okGcAction(x:GcAction):Prop:=okN x.Kind∧okT x.Key∧okN x.Uid∧okN x.Owner∧okT x.Name∧True
def wGcAction(x:GcAction):Nat:=wN x.Kind+(wS x.Key+(wN x.Uid+(wN x.Owner+(wS x.Name+0))))+1
def eGcAction(x:GcAction):List D:=[.v (.int .i64 x.Kind),.v (.string x.Key),.v (.int .i64 x.Uid),.v (.int .i64 x.Owner),.v (.string x.Name)]
def EE:=PLift.up (And.intro (And.intro (And.intro @eI.eq_1 (And.intro @eB.eq_1 @eS.eq_1)) (And.intro (And.intro @eK.eq_1 @eL.eq_1) (And.intro @eRaw.eq_1 @eLabel.eq_1))) (And.intro (And.intro (And.intro @eOwner.eq_1 @eManager.eq_1) (And.intro @eMeta.eq_1 @eTField_u)) (And.intro (And.intro @eTValue_u @eObject.eq_1) (And.intro @eTState.eq_1 @eGcAction.eq_1))))
theorem eM{n m:Nat}{Q:XT→St→Prop}{R:St→Prop}{s':St}{sl:List (Nat×AV)}{H':List (Option Blk)}(σ:Src)(hR:R ⟨sl,H'⟩)(hB:shBs s'.heap σ H' σ H':=by simp only[ZZ.down,Nat.reduceEqDiff,reduceCtorEq,Nat.reduceAdd,Nat.reduceLeDiff,Nat.reduceLT,Nat.reduceBNe,EE.down])(hk:keepS 0 (s'.heap.take m) σ H':=by simp only[ZZ.down,Nat.reduceEqDiff,reduceCtorEq,Nat.reduceAdd,Nat.reduceLeDiff,Nat.reduceLT,Nat.reduceBNe,EE.down])(hs:shSl s'.heap σ H' s'.slots sl:=by simp only[ZZ.down,Nat.reduceEqDiff,reduceCtorEq,Nat.reduceAdd,Nat.reduceLeDiff,Nat.reduceLT,Nat.reduceBNe,EE.down])(hn:nodupS σ=true:=by rfl):sM n m R Q .normal s':=endM σ ⟨hB,hn,hk⟩ hs hR
theorem eL'{n m:Nat}{Q:XT→St→Prop}{I:Nat→St→Prop}{j:Nat}(k':Nat){s':St}{sl:List (Nat×AV)}{H':List (Option Blk)}(σ:Src)(hI:I k' ⟨sl,H'⟩)(hj:k'<j)(hB:shBs s'.heap σ H' σ H':=by simp only[ZZ.down,Nat.reduceEqDiff,reduceCtorEq,Nat.reduceAdd,Nat.reduceLeDiff,Nat.reduceLT,Nat.reduceBNe,EE.down])(hk:keepS 0 (s'.heap.take m) σ H':=by simp only[ZZ.down,Nat.reduceEqDiff,reduceCtorEq,Nat.reduceAdd,Nat.reduceLeDiff,Nat.reduceLT,Nat.reduceBNe,EE.down])(hs:shSl s'.heap σ H' s'.slots sl:=by simp only[ZZ.down,Nat.reduceEqDiff,reduceCtorEq,Nat.reduceAdd,Nat.reduceLeDiff,Nat.reduceLT,Nat.reduceBNe,EE.down])(hn:nodupS σ=true:=by rfl):sL n m I j Q .normal s':=endL k' hj σ ⟨hB,hn,hk⟩ hs hI
theorem bL{P:Program}{n m:Nat}{Q:XT→St→Prop}{s:St}{k:List Frm}{body:AC}(I:Nat→St→Prop)(k0:Nat){sl:List (Nat×AV)}{H':List (Option Blk)}(σ:Src)(hI:I k0 ⟨sl,H'⟩)(hr:∀j s,I j s→sK P n m body [] (sL n m I j (sU P n m k Q)) s)(hB:shBs s.heap σ H' σ H':=by simp only[ZZ.down,Nat.reduceEqDiff,reduceCtorEq,Nat.reduceAdd,Nat.reduceLeDiff,Nat.reduceLT,Nat.reduceBNe,EE.down])(hk:keepS 0 (s.heap.take m) σ H':=by simp only[ZZ.down,Nat.reduceEqDiff,reduceCtorEq,Nat.reduceAdd,Nat.reduceLeDiff,Nat.reduceLT,Nat.reduceBNe,EE.down])(hs:shSl s.heap σ H' s.slots sl:=by simp only[ZZ.down,Nat.reduceEqDiff,reduceCtorEq,Nat.reduceAdd,Nat.reduceLeDiff,Nat.reduceLT,Nat.reduceBNe,EE.down])(hn:nodupS σ=true:=by rfl):WpC P n m (.loop body) (sU P n m k Q) s:=begL I k0 σ ⟨hB,hn,hk⟩ hs hI hr
theorem eF{m:Nat}{h:List (Option Blk)}{l res:List A1}{H':List (Option Blk)}(σ:Src)(hB:shBs h σ H' σ H':=by simp only[ZZ.down,Nat.reduceEqDiff,reduceCtorEq,Nat.reduceAdd,Nat.reduceLeDiff,Nat.reduceLT,Nat.reduceBNe,EE.down])(hk:keepS 0 (h.take m) σ H':=by simp only[ZZ.down,Nat.reduceEqDiff,reduceCtorEq,Nat.reduceAdd,Nat.reduceLeDiff,Nat.reduceLT,Nat.reduceBNe,EE.down])(hs:shAs h σ H' res l:=by simp only[ZZ.down,Nat.reduceEqDiff,reduceCtorEq,Nat.reduceAdd,Nat.reduceLeDiff,Nat.reduceLT,Nat.reduceBNe,EE.down])(hn:nodupS σ=true:=by rfl):Fin m h l res H':=fin_sh σ ⟨hB,hn,hk⟩ hs
theorem eV{n m:Nat}{s':St}{sl:List (Nat×AV)}{H':List (Option Blk)}(σ:Src)(hB:shBs s'.heap σ H' σ H':=by simp only[ZZ.down,Nat.reduceEqDiff,reduceCtorEq,Nat.reduceAdd,Nat.reduceLeDiff,Nat.reduceLT,Nat.reduceBNe,EE.down])(hk:keepS 0 (s'.heap.take m) σ H':=by simp only[ZZ.down,Nat.reduceEqDiff,reduceCtorEq,Nat.reduceAdd,Nat.reduceLeDiff,Nat.reduceLT,Nat.reduceBNe,EE.down])(hs:shSl s'.heap σ H' s'.slots sl:=by simp only[ZZ.down,Nat.reduceEqDiff,reduceCtorEq,Nat.reduceAdd,Nat.reduceLeDiff,Nat.reduceLT,Nat.reduceBNe,EE.down])(hn:nodupS σ=true:=by rfl):View n m s' ⟨sl,H'⟩:=View.sh σ ⟨hB,hn,hk⟩ hs
theorem peLt{α:Type}{xs:List α}{j:Int}{y:α}(h:rdI xs j=some y):(j.toNat<xs.length)=True:=eq_true (by obtain⟨a,_,b⟩:=rdI_some h;omega)
theorem eX{n m i:Nat}{Rr:St→Prop}{Rx:Nat→St→Prop}{s':St}{sl:List (Nat×AV)}{H':List (Option Blk)}(σ:Src)(hR:Rx i ⟨sl,H'⟩)(hB:shBs s'.heap σ H' σ H':=by simp only[ZZ.down,Nat.reduceEqDiff,reduceCtorEq,Nat.reduceAdd,Nat.reduceLeDiff,Nat.reduceLT,Nat.reduceBNe,EE.down])(hk:keepS 0 (s'.heap.take m) σ H':=by simp only[ZZ.down,Nat.reduceEqDiff,reduceCtorEq,Nat.reduceAdd,Nat.reduceLeDiff,Nat.reduceLT,Nat.reduceBNe,EE.down])(hs:shSl s'.heap σ H' s'.slots sl:=by simp only[ZZ.down,Nat.reduceEqDiff,reduceCtorEq,Nat.reduceAdd,Nat.reduceLeDiff,Nat.reduceLT,Nat.reduceBNe,EE.down])(hn:nodupS σ=true:=by rfl):xQ n m Rx Rr (.exit i) s':=endX σ ⟨hB,hn,hk⟩ hs hR
theorem eR{n m:Nat}{Rr:St→Prop}{Rx:Nat→St→Prop}{s':St}{sl:List (Nat×AV)}{H':List (Option Blk)}(σ:Src)(hR:Rr ⟨sl,H'⟩)(hB:shBs s'.heap σ H' σ H':=by simp only[ZZ.down,Nat.reduceEqDiff,reduceCtorEq,Nat.reduceAdd,Nat.reduceLeDiff,Nat.reduceLT,Nat.reduceBNe,EE.down])(hk:keepS 0 (s'.heap.take m) σ H':=by simp only[ZZ.down,Nat.reduceEqDiff,reduceCtorEq,Nat.reduceAdd,Nat.reduceLeDiff,Nat.reduceLT,Nat.reduceBNe,EE.down])(hs:shSl s'.heap σ H' s'.slots sl:=by simp only[ZZ.down,Nat.reduceEqDiff,reduceCtorEq,Nat.reduceAdd,Nat.reduceLeDiff,Nat.reduceLT,Nat.reduceBNe,EE.down])(hn:nodupS σ=true:=by rfl):xQ n m Rx Rr .ret s':=endR σ ⟨hB,hn,hk⟩ hs hR
abbrev dI(n:Int):C:= .d (.v (.int .i64 n))
abbrev dS(s:ByteArray):C:= .d (.v (.string s))
abbrev dB(b:Bool):C:= .d (.v (.bool b))
abbrev dN:C:= .d (.v (.slice none 0 0))
abbrev dM(l:List (List D)):C:= .d (.sl l)
abbrev sq(d:Nat)(op:AOp):AStep:=⟨some d,none,op,[],.new []⟩
abbrev su(op:AOp):AStep:=⟨none,none,op,[],.new []⟩
abbrev sd(d:Nat)(op:AOp)(b:List Nat):AStep:=⟨some d,none,op,b,.new []⟩
abbrev zn(d:Nat)(op:AOp)(b l:List Nat):AStep:=⟨some d,none,op,b,.new l⟩
abbrev zl(d:Nat)(op:AOp)(b l:List Nat):AStep:=⟨some d,none,op,b,.lone l⟩
abbrev zg(d g:Nat)(w:Bool)(op:AOp):AStep:=⟨some d,some (g,w),op,[],.new []⟩
theorem ww{p q:Prop}(hq:q)(h:p=q:=by first|(simp only[VW.down,Nat.reduceEqDiff,reduceCtorEq,Nat.reduceAdd,Nat.reduceLeDiff,Nat.reduceLT,Nat.reduceBEq,Nat.reduceSub,EE.down];rfl)|rfl):p:=Eq.mpr h hq
abbrev Qa(d t:Nat):=sq d (.mv (.t t))
abbrev oc(x:C):AV:= .one (.c x)
abbrev Pz(i:Nat):AV:= .one (.c (.pt i 0))
abbrev xb(l:List C):Option Blk:=some (.box l)
abbrev Qb(d f t:Nat):=sq d (.fieldA f (.t t))
abbrev Qc(d n t:Nat):=sq d (.load (some n) (.t t))
abbrev Qd(d t:Nat):=sq d (.load none (.t t))
abbrev Qe(d:Nat)(n:Int):=sq d (.mv (kI n))
abbrev Qf(d:Nat)(b:Bool):=sq d (.mv (kB b))
abbrev Qg(d t:Nat):=sq d (.box (.t t))
abbrev Qh(d t:Nat):=sq d (.len (.t t))
abbrev Qi(d t u:Nat):=sq d (.pick (.t t) (.t u) (kB false))
abbrev Qj(d t u:Nat):=sq d (.pick (.t t) (kB true) (.t u))
abbrev Qk(d f t:Nat):=sq d (.call f [(.t t)])
abbrev Ql(d f t u:Nat):=sq d (.call f [(.t t),(.t u)])
abbrev Qm(d t:Nat)(n:Int):=sq d (.bin .add (.t t) (kI n))
abbrev Qn(d t u:Nat):=sq d (.bin .lss (.t t) (.t u))
abbrev Qo(d t n:Nat):=sq d (.ext (.t t) n)
abbrev Qp(d n t u:Nat):=sq d (.indexA n (.t t) (.t u))
abbrev Qq(d t:Nat):=sq d (.not (.t t))
abbrev Qr(d t:Nat)(n:Int):=sq d (.bin .eql (.t t) (kI n))
abbrev Qs(d g:Nat)(w:Bool)(f t:Nat):=zg d g w (.fieldA f (.t t))
abbrev Qt(d g:Nat)(w:Bool)(t:Nat):=zg d g w (.load none (.t t))
abbrev Qu(d g:Nat)(w:Bool)(n t:Nat):=zg d g w (.load (some n) (.t t))
abbrev Qv(d g:Nat)(w:Bool)(t:Nat):=zg d g w (.mv (.t t))
theorem zc{P:Program}{f:FuncId}(A:AFn){n:Nat}{rvs:List RV}{c:AC}{args:List A1}{H H':List (Option Blk)}{res:List A1}(hf:afn P f=some A.er)(hA:A=⟨n,rvs,c⟩)(h:sK P n H.length c [] (sE H.length rvs res H') ⟨argSlots 0 args,H⟩)(hl:Nat.ble args.length n=true:=by rfl):CallD P f args H (tupV res) H':=by subst hA;exact callS hf (Nat.le_of_ble_eq_true hl) h
theorem bi{α β:Type}{b:β}{x:Option α}{f:α→Option β}(h:x.bind f=some b):∃a,x=some a∧f a=some b:=Option.bind_eq_some_iff.1 h
theorem cN{P:Program}{f:FuncId}{as':List A1}{H H':List (Option Blk)}{res:AV}{as0:List A1}{s:St}{K:Out→Prop}(ρ:List Nat)
 (hc:CallD P f as' H res H') (hH:passAll s.heap (rn ρ s.heap.length) (hp H) 0 H) (hK:K ⟨some (res.ren (rn ρ s.heap.length)),tailWr 0 H' (rn ρ s.heap.length)⟩)
 (has:as0.map nrmA=as'.map (A1.ren (rn ρ s.heap.length)):=by first|rfl|simp[nrmA,nrmC,nrm,A1.ren,C.ren,rn,List.length_set]) (hlive:liveAll (hp H) as':=by simp[liveAll,A1.live,C.live,hp]) (hρ:ρ.length=H.length:=by rfl) (hnd:ρ.Nodup:=by decide):CallX P f as0 s K:=
 callX_n ρ hc has hlive hρ hnd hH hK
section
variable {P:Program} {n m:Nat} {Q:XT→St→Prop} {a b:AC} {k:List Frm} {s:St} {α:Type} {x y:Option α} {r:Option α}
theorem condSh{p:Prop}[Decidable p](h:(if p then x else y)=r)(h1:p→x=r→sK P n m a k Q s)(h0:¬p→y=r→sK P n m b k Q s):sC P n m (decide p) a b k Q s:=
 condS (fun c=>h1 c ((if_pos c).symm.trans h)) fun c=>h0 c ((if_neg c).symm.trans h)
theorem condBh{t:Bool}(h:(if t=true then x else y)=r)(h1:t=true→x=r→sK P n m a k Q s)(h0:¬t=true→y=r→sK P n m b k Q s):sC P n m t a b k Q s:=
 condB (fun c=>h1 c ((if_pos c).symm.trans h)) fun c=>h0 c ((if_neg c).symm.trans h)
end
section
variable {P:Program} {dst:Option Nat} {op:AOp} {bef:List Nat} {lone:Lone} {rr:List AStep} {s:St} {K:St→Prop} {g:Nat} {want:Bool} {hh:List (Option Blk)} {i:Nat} {slots:List (Nat×AV)} {wl:List (Nat×List (Nat×Blk))} {α:Type} {x y:Option α} {r:Option α}
theorem guardSh{p:Prop}[Decidable p](h:(if p then x else y)=r)(h1:p→x=r→sG P true want dst op rr g s K)(h0:¬p→y=r→sG P false want dst op rr g s K):sG P (decide p) want dst op rr g s K:=
 guardS (fun c=>h1 c ((if_pos c).symm.trans h)) fun c=>h0 c ((if_neg c).symm.trans h)
theorem guardSBh{t:Bool}(h:(if t=true then x else y)=r)(h1:t=true→x=r→sG P true want dst op rr g s K)(h0:¬t=true→y=r→sG P false want dst op rr g s K):sG P t want dst op rr g s K:=
 guardSB (fun c=>h1 c ((if_pos c).symm.trans h)) fun c=>h0 c ((if_neg c).symm.trans h)
theorem guardDh{p:Prop}[Decidable p](h:(if p then x else y)=r)(h1:p→x=r→sGD P hh true want dst op bef lone rr i g slots wl K)(h0:¬p→y=r→sGD P hh false want dst op bef lone rr i g slots wl K):sGD P hh (decide p) want dst op bef lone rr i g slots wl K:=
 guardD (fun c=>h1 c ((if_pos c).symm.trans h)) fun c=>h0 c ((if_neg c).symm.trans h)
theorem guardDBh{t:Bool}(h:(if t=true then x else y)=r)(h1:t=true→x=r→sGD P hh true want dst op bef lone rr i g slots wl K)(h0:¬t=true→y=r→sGD P hh false want dst op bef lone rr i g slots wl K):sGD P hh t want dst op bef lone rr i g slots wl K:=
 guardDB (fun c=>h1 c ((if_pos c).symm.trans h)) fun c=>h0 c ((if_neg c).symm.trans h)
end
abbrev bOwner(x:Owner):List C:=[dS x.Kind,dS x.Name,dI x.Uid,dB x.Controller,dB x.Block]
abbrev bMeta(x:Meta):List C:=[dS x.Kind,dS x.Namespace,dS x.Name,dI x.Uid,dI x.Version,dI x.Generation,dI x.Created,dB x.Deleting,dI x.DeleteAt,dM (x.Labels.map eLabel),dM (x.Owners.map eOwner),dM (x.Finalizers.map eS),dM (x.Managers.map eManager)]
abbrev bObject(x:Object):List C:=[dS x.Meta.Kind,dS x.Meta.Namespace,dS x.Meta.Name,dI x.Meta.Uid,dI x.Meta.Version,dI x.Meta.Generation,dI x.Meta.Created,dB x.Meta.Deleting,dI x.Meta.DeleteAt,dM (x.Meta.Labels.map eLabel),dM (x.Meta.Owners.map eOwner),dM (x.Meta.Finalizers.map eS),dM (x.Meta.Managers.map eManager),dI x.Spec.Kind,dI x.Spec.N,dS x.Spec.S,dM (x.Spec.List_.map eTValue),dM (x.Spec.Fields.map eTField),dI x.Status.Kind,dI x.Status.N,dS x.Status.S,dM (x.Status.List_.map eTValue),dM (x.Status.Fields.map eTField)]
abbrev bGcAction(x:GcAction):List C:=[dI x.Kind,dS x.Key,dI x.Uid,dI x.Owner,dS x.Name]
end Go.Proofs.Ytdejhahgpojnoaa
