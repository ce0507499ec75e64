/- Each Go function as a function over typed data, and its walk. -/
import Derived.Test.YtadhmlfnfgpjjaaFE
import Derived.Ground.NamesProg
import Derived.Shelf.Lay
import Derived.KernelRfl
import Derived.Test.YtadhmlfnfgpjjaaProg
namespace Go.Proofs.Ytadhmlfnfgpjjaa
open Go Go.Fw Go.Shelf
set_option maxRecDepth 100000
set_option maxHeartbeats 4000000
set_option linter.unusedSimpArgs false
set_option linter.unusedVariables false
structure Requirement where
 Key:ByteArray
 Op:Int
 Values:(List ByteArray)
 deriving DecidableEq
def okRequirement(x:Requirement):Prop:=okT x.Key∧okN x.Op∧(okL okT) x.Values∧True
def wRequirement(x:Requirement):Nat:=wS x.Key+(wN x.Op+((wL wS) x.Values+0))+1
def eRequirement(x:Requirement):List D:=[.v (.string x.Key),.v (.int .i64 x.Op),.sl (x.Values.map eS)]
structure Parser where
 tokens:(List ByteArray)
 failed:Bool
 deriving DecidableEq
def okParser(x:Parser):Prop:=(okL okT) x.tokens∧okT x.failed∧True
def wParser(x:Parser):Nat:=(wL wS) x.tokens+(wN x.failed+0)+1
def eParser(x:Parser):List D:=[.sl (x.tokens.map eS),.v (.bool x.failed)]
structure Label where
 Key:ByteArray
 Value:ByteArray
 deriving DecidableEq
def okLabel(x:Label):Prop:=okT x.Key∧okT x.Value∧True
def wLabel(x:Label):Nat:=wS x.Key+(wS x.Value+0)+1
def eLabel(x:Label):List D:=[.v (.string x.Key),.v (.string x.Value)]
structure Got where
 R:Requirement
 I:Int
 Bad:Bool
 deriving DecidableEq
def okGot(x:Got):Prop:=okRequirement x.R∧okN x.I∧okT x.Bad∧True
def wGot(x:Got):Nat:=wRequirement x.R+(wN x.I+(wN x.Bad+0))+1
def eGot(x:Got):List D:=[.v (.string x.R.Key),.v (.int .i64 x.R.Op),.sl (x.R.Values.map eS),.v (.int .i64 x.I),.v (.bool x.Bad)]
def EE:=PLift.up (And.intro (And.intro (And.intro @eI.eq_1 @eB.eq_1) (And.intro @eS.eq_1 @eK.eq_1)) (And.intro (And.intro @eL.eq_1 @eRequirement.eq_1) (And.intro @eParser.eq_1 (And.intro @eLabel.eq_1 @eGot.eq_1))))
theorem eM{n m:Nat}{Q:XT→St→Prop}{R:St→Prop}{s':St}{sl:List (Nat×AV)}{H':List (Option Blk)}(σ:Src)(hR:R ⟨sl,H'⟩)(hB:shBs s'.heap σ H' σ H':=by simp only[ZZ.down,Nat.reduceEqDiff,reduceCtorEq,Nat.reduceAdd,Nat.reduceLeDiff,Nat.reduceLT,Nat.reduceBNe,EE.down])(hk:keepS 0 (s'.heap.take m) σ H':=by simp only[ZZ.down,Nat.reduceEqDiff,reduceCtorEq,Nat.reduceAdd,Nat.reduceLeDiff,Nat.reduceLT,Nat.reduceBNe,EE.down])(hs:shSl s'.heap σ H' s'.slots sl:=by simp only[ZZ.down,Nat.reduceEqDiff,reduceCtorEq,Nat.reduceAdd,Nat.reduceLeDiff,Nat.reduceLT,Nat.reduceBNe,EE.down])(hn:nodupS σ=true:=by rfl):sM n m R Q .normal s':=endM σ ⟨hB,hn,hk⟩ hs hR
theorem eL'{n m:Nat}{Q:XT→St→Prop}{I:Nat→St→Prop}{j:Nat}(k':Nat){s':St}{sl:List (Nat×AV)}{H':List (Option Blk)}(σ:Src)(hI:I k' ⟨sl,H'⟩)(hj:k'<j)(hB:shBs s'.heap σ H' σ H':=by simp only[ZZ.down,Nat.reduceEqDiff,reduceCtorEq,Nat.reduceAdd,Nat.reduceLeDiff,Nat.reduceLT,Nat.reduceBNe,EE.down])(hk:keepS 0 (s'.heap.take m) σ H':=by simp only[ZZ.down,Nat.reduceEqDiff,reduceCtorEq,Nat.reduceAdd,Nat.reduceLeDiff,Nat.reduceLT,Nat.reduceBNe,EE.down])(hs:shSl s'.heap σ H' s'.slots sl:=by simp only[ZZ.down,Nat.reduceEqDiff,reduceCtorEq,Nat.reduceAdd,Nat.reduceLeDiff,Nat.reduceLT,Nat.reduceBNe,EE.down])(hn:nodupS σ=true:=by rfl):sL n m I j Q .normal s':=endL k' hj σ ⟨hB,hn,hk⟩ hs hI
theorem bL{P:Program}{n m:Nat}{Q:XT→St→Prop}{s:St}{k:List Frm}{body:AC}(I:Nat→St→Prop)(k0:Nat){sl:List (Nat×AV)}{H':List (Option Blk)}(σ:Src)(hI:I k0 ⟨sl,H'⟩)(hr:∀j s,I j s→sK P n m body [] (sL n m I j (sU P n m k Q)) s)(hB:shBs s.heap σ H' σ H':=by simp only[ZZ.down,Nat.reduceEqDiff,reduceCtorEq,Nat.reduceAdd,Nat.reduceLeDiff,Nat.reduceLT,Nat.reduceBNe,EE.down])(hk:keepS 0 (s.heap.take m) σ H':=by simp only[ZZ.down,Nat.reduceEqDiff,reduceCtorEq,Nat.reduceAdd,Nat.reduceLeDiff,Nat.reduceLT,Nat.reduceBNe,EE.down])(hs:shSl s.heap σ H' s.slots sl:=by simp only[ZZ.down,Nat.reduceEqDiff,reduceCtorEq,Nat.reduceAdd,Nat.reduceLeDiff,Nat.reduceLT,Nat.reduceBNe,EE.down])(hn:nodupS σ=true:=by rfl):WpC P n m (.loop body) (sU P n m k Q) s:=begL I k0 σ ⟨hB,hn,hk⟩ hs hI hr
theorem eF{m:Nat}{h:List (Option Blk)}{l res:List A1}{H':List (Option Blk)}(σ:Src)(hB:shBs h σ H' σ H':=by simp only[ZZ.down,Nat.reduceEqDiff,reduceCtorEq,Nat.reduceAdd,Nat.reduceLeDiff,Nat.reduceLT,Nat.reduceBNe,EE.down])(hk:keepS 0 (h.take m) σ H':=by simp only[ZZ.down,Nat.reduceEqDiff,reduceCtorEq,Nat.reduceAdd,Nat.reduceLeDiff,Nat.reduceLT,Nat.reduceBNe,EE.down])(hs:shAs h σ H' res l:=by simp only[ZZ.down,Nat.reduceEqDiff,reduceCtorEq,Nat.reduceAdd,Nat.reduceLeDiff,Nat.reduceLT,Nat.reduceBNe,EE.down])(hn:nodupS σ=true:=by rfl):Fin m h l res H':=fin_sh σ ⟨hB,hn,hk⟩ hs
abbrev dI(n:Int):C:= .d (.v (.int .i64 n))
abbrev dS(s:ByteArray):C:= .d (.v (.string s))
abbrev dB(b:Bool):C:= .d (.v (.bool b))
abbrev dN:C:= .d (.v (.slice none 0 0))
abbrev dM(l:List (List D)):C:= .d (.sl l)
abbrev sq(d:Nat)(op:AOp):AStep:=⟨some d,none,op,[],.new []⟩
abbrev su(op:AOp):AStep:=⟨none,none,op,[],.new []⟩
abbrev sd(d:Nat)(op:AOp)(b:List Nat):AStep:=⟨some d,none,op,b,.new []⟩
abbrev zn(d:Nat)(op:AOp)(b l:List Nat):AStep:=⟨some d,none,op,b,.new l⟩
abbrev zl(d:Nat)(op:AOp)(b l:List Nat):AStep:=⟨some d,none,op,b,.lone l⟩
abbrev zg(d g:Nat)(w:Bool)(op:AOp):AStep:=⟨some d,some (g,w),op,[],.new []⟩
theorem ww{p q:Prop}(hq:q)(h:p=q:=by first|(simp only[VW.down,Nat.reduceEqDiff,reduceCtorEq,Nat.reduceAdd,Nat.reduceLeDiff,Nat.reduceLT,Nat.reduceBEq,Nat.reduceSub,EE.down];rfl)|rfl):p:=Eq.mpr h hq
theorem bi{α β:Type}{b:β}{x:Option α}{f:α→Option β}(h:x.bind f=some b):∃a,x=some a∧f a=some b:=Option.bind_eq_some_iff.1 h
theorem cN{P:Program}{f:FuncId}{as':List A1}{H H':List (Option Blk)}{res:AV}{as0:List A1}{s:St}{K:Out→Prop}(ρ:List Nat)
 (hc:CallD P f as' H res H') (hH:passAll s.heap (rn ρ s.heap.length) (hp H) 0 H) (hK:K ⟨some (res.ren (rn ρ s.heap.length)),tailWr 0 H' (rn ρ s.heap.length)⟩)
 (has:as0.map nrmA=as'.map (A1.ren (rn ρ s.heap.length)):=by first|rfl|simp[nrmA,nrmC,nrm,A1.ren,C.ren,rn,List.length_set]) (hlive:liveAll (hp H) as':=by simp[liveAll,A1.live,C.live,hp]) (hρ:ρ.length=H.length:=by rfl) (hnd:ρ.Nodup:=by decide):CallX P f as0 s K:=
 callX_n ρ hc has hlive hρ hnd hH hK
section
variable {P:Program} {n m:Nat} {Q:XT→St→Prop} {a b:AC} {k:List Frm} {s:St} {α:Type} {x y:Option α} {r:Option α}
theorem condSh{p:Prop}[Decidable p](h:(if p then x else y)=r)(h1:p→x=r→sK P n m a k Q s)(h0:¬p→y=r→sK P n m b k Q s):sC P n m (decide p) a b k Q s:=
 condS (fun c=>h1 c ((if_pos c).symm.trans h)) fun c=>h0 c ((if_neg c).symm.trans h)
theorem condBh{t:Bool}(h:(if t=true then x else y)=r)(h1:t=true→x=r→sK P n m a k Q s)(h0:¬t=true→y=r→sK P n m b k Q s):sC P n m t a b k Q s:=
 condB (fun c=>h1 c ((if_pos c).symm.trans h)) fun c=>h0 c ((if_neg c).symm.trans h)
end
section
variable {P:Program} {dst:Option Nat} {op:AOp} {bef:List Nat} {lone:Lone} {rr:List AStep} {s:St} {K:St→Prop} {g:Nat} {want:Bool} {hh:List (Option Blk)} {i:Nat} {slots:List (Nat×AV)} {wl:List (Nat×List (Nat×Blk))} {α:Type} {x y:Option α} {r:Option α}
theorem guardSh{p:Prop}[Decidable p](h:(if p then x else y)=r)(h1:p→x=r→sG P true want dst op rr g s K)(h0:¬p→y=r→sG P false want dst op rr g s K):sG P (decide p) want dst op rr g s K:=
 guardS (fun c=>h1 c ((if_pos c).symm.trans h)) fun c=>h0 c ((if_neg c).symm.trans h)
theorem guardSBh{t:Bool}(h:(if t=true then x else y)=r)(h1:t=true→x=r→sG P true want dst op rr g s K)(h0:¬t=true→y=r→sG P false want dst op rr g s K):sG P t want dst op rr g s K:=
 guardSB (fun c=>h1 c ((if_pos c).symm.trans h)) fun c=>h0 c ((if_neg c).symm.trans h)
theorem guardDh{p:Prop}[Decidable p](h:(if p then x else y)=r)(h1:p→x=r→sGD P hh true want dst op bef lone rr i g slots wl K)(h0:¬p→y=r→sGD P hh false want dst op bef lone rr i g slots wl K):sGD P hh (decide p) want dst op bef lone rr i g slots wl K:=
 guardD (fun c=>h1 c ((if_pos c).symm.trans h)) fun c=>h0 c ((if_neg c).symm.trans h)
theorem guardDBh{t:Bool}(h:(if t=true then x else y)=r)(h1:t=true→x=r→sGD P hh true want dst op bef lone rr i g slots wl K)(h0:¬t=true→y=r→sGD P hh false want dst op bef lone rr i g slots wl K):sGD P hh t want dst op bef lone rr i g slots wl K:=
 guardDB (fun c=>h1 c ((if_pos c).symm.trans h)) fun c=>h0 c ((if_neg c).symm.trans h)
end
end Go.Proofs.Ytadhmlfnfgpjjaa
