/- Each Go function as a function over typed data, and its walk. -/
import Derived.Test.YtadhmlfnfgpjjaaFE
import Derived.Ground.NamesProg
import Derived.Shelf.Lay
import Derived.KernelRfl
import Derived.Test.YtadhmlfnfgpjjaaProg
namespace Go.Proofs.Ytadhmlfnfgpjjaa
open Go Go.Fw Go.Shelf
set_option maxRecDepth 100000
set_option maxHeartbeats 4000000
set_option linter.unusedSimpArgs false
set_option linter.unusedVariables false
structure Label where
  Key : ByteArray
  Value : ByteArray
  deriving DecidableEq
def okLabel (x : Label) : Prop := okT x.Key ∧ okT x.Value ∧ True
def wLabel (x : Label) : Nat := wS x.Key + (wS x.Value + 0) + 1
def eLabel (x : Label) : List D := [.v (.string x.Key), .v (.string x.Value)]
structure Requirement where
  Key : ByteArray
  Op : Int
  Values : (List ByteArray)
  deriving DecidableEq
def okRequirement (x : Requirement) : Prop := okT x.Key ∧ okN x.Op ∧ (okL okT) x.Values ∧ True
def wRequirement (x : Requirement) : Nat := wS x.Key + (wN x.Op + ((wL wS) x.Values + 0)) + 1
def eRequirement (x : Requirement) : List D := [.v (.string x.Key), .v (.int .i64 x.Op), .sl (x.Values.map eS)]
structure Parser where
  tokens : (List ByteArray)
  failed : Bool
  deriving DecidableEq
def okParser (x : Parser) : Prop := (okL okT) x.tokens ∧ okT x.failed ∧ True
def wParser (x : Parser) : Nat := (wL wS) x.tokens + (wN x.failed + 0) + 1
def eParser (x : Parser) : List D := [.sl (x.tokens.map eS), .v (.bool x.failed)]
def EE := PLift.up (And.intro (And.intro (And.intro @eI.eq_1 @eB.eq_1) (And.intro @eS.eq_1 @eK.eq_1)) (And.intro (And.intro @eL.eq_1 @eLabel.eq_1) (And.intro @eRequirement.eq_1 @eParser.eq_1)))
theorem eM {n m : Nat} {Q : XT → St → Prop} {R : St → Prop} {s' : St} {sl : List (Nat × AV)} {H' : List (Option Blk)} (σ : Src) (hR : R ⟨sl, H'⟩) (hB : shBs s'.heap σ H' σ H' := by simp only [ZZ.down, Nat.reduceEqDiff, reduceCtorEq, Nat.reduceAdd, Nat.reduceLeDiff, Nat.reduceLT, Nat.reduceBNe, EE.down]) (hk : keepS 0 (s'.heap.take m) σ H' := by simp only [ZZ.down, Nat.reduceEqDiff, reduceCtorEq, Nat.reduceAdd, Nat.reduceLeDiff, Nat.reduceLT, Nat.reduceBNe, EE.down]) (hs : shSl s'.heap σ H' s'.slots sl := by simp only [ZZ.down, Nat.reduceEqDiff, reduceCtorEq, Nat.reduceAdd, Nat.reduceLeDiff, Nat.reduceLT, Nat.reduceBNe, EE.down]) (hn : nodupS σ = true := by rfl) : sM n m R Q .normal s' := endM σ ⟨hB, hn, hk⟩ hs hR
theorem eL' {n m : Nat} {Q : XT → St → Prop} {I : Nat → St → Prop} {j : Nat} (k' : Nat) {s' : St} {sl : List (Nat × AV)} {H' : List (Option Blk)} (σ : Src) (hI : I k' ⟨sl, H'⟩) (hj : k' < j) (hB : shBs s'.heap σ H' σ H' := by simp only [ZZ.down, Nat.reduceEqDiff, reduceCtorEq, Nat.reduceAdd, Nat.reduceLeDiff, Nat.reduceLT, Nat.reduceBNe, EE.down]) (hk : keepS 0 (s'.heap.take m) σ H' := by simp only [ZZ.down, Nat.reduceEqDiff, reduceCtorEq, Nat.reduceAdd, Nat.reduceLeDiff, Nat.reduceLT, Nat.reduceBNe, EE.down]) (hs : shSl s'.heap σ H' s'.slots sl := by simp only [ZZ.down, Nat.reduceEqDiff, reduceCtorEq, Nat.reduceAdd, Nat.reduceLeDiff, Nat.reduceLT, Nat.reduceBNe, EE.down]) (hn : nodupS σ = true := by rfl) : sL n m I j Q .normal s' := endL k' hj σ ⟨hB, hn, hk⟩ hs hI
theorem bL {P : Program} {n m : Nat} {Q : XT → St → Prop} {s : St} {k : List Frm} {body : AC} (I : Nat → St → Prop) (k0 : Nat) {sl : List (Nat × AV)} {H' : List (Option Blk)} (σ : Src) (hI : I k0 ⟨sl, H'⟩) (hr : ∀ j s, I j s → sK P n m body [] (sL n m I j (sU P n m k Q)) s) (hB : shBs s.heap σ H' σ H' := by simp only [ZZ.down, Nat.reduceEqDiff, reduceCtorEq, Nat.reduceAdd, Nat.reduceLeDiff, Nat.reduceLT, Nat.reduceBNe, EE.down]) (hk : keepS 0 (s.heap.take m) σ H' := by simp only [ZZ.down, Nat.reduceEqDiff, reduceCtorEq, Nat.reduceAdd, Nat.reduceLeDiff, Nat.reduceLT, Nat.reduceBNe, EE.down]) (hs : shSl s.heap σ H' s.slots sl := by simp only [ZZ.down, Nat.reduceEqDiff, reduceCtorEq, Nat.reduceAdd, Nat.reduceLeDiff, Nat.reduceLT, Nat.reduceBNe, EE.down]) (hn : nodupS σ = true := by rfl) : WpC P n m (.loop body) (sU P n m k Q) s := begL I k0 σ ⟨hB, hn, hk⟩ hs hI hr
theorem eF {m : Nat} {h : List (Option Blk)} {l res : List A1} {H' : List (Option Blk)} (σ : Src) (hB : shBs h σ H' σ H' := by simp only [ZZ.down, Nat.reduceEqDiff, reduceCtorEq, Nat.reduceAdd, Nat.reduceLeDiff, Nat.reduceLT, Nat.reduceBNe, EE.down]) (hk : keepS 0 (h.take m) σ H' := by simp only [ZZ.down, Nat.reduceEqDiff, reduceCtorEq, Nat.reduceAdd, Nat.reduceLeDiff, Nat.reduceLT, Nat.reduceBNe, EE.down]) (hs : shAs h σ H' res l := by simp only [ZZ.down, Nat.reduceEqDiff, reduceCtorEq, Nat.reduceAdd, Nat.reduceLeDiff, Nat.reduceLT, Nat.reduceBNe, EE.down]) (hn : nodupS σ = true := by rfl) : Fin m h l res H' := fin_sh σ ⟨hB, hn, hk⟩ hs


/- orchestrator/orchestratorlaw03.Small -/
def F11_l4  : List Label → Nat → Option ((Bool) ⊕ (Unit))
  | [], o4_0 => some (Sum.inr (()))
  | xo4 :: xs, o4_0 => (((if 100 < (xo4.Key.size : Int) then some true else some (decide (100 < (xo4.Value.size : Int))))).bind fun o6 => (if o6 = true then (some false).map Sum.inl else F11_l4  xs (o4_0 + 1)))
def F11_l15  : List ByteArray → Nat → Option (((Bool) ⊕ (Unit)) ⊕ (Unit))
  | [], o15_0 => some (Sum.inr (()))
  | xo15 :: xs, o15_0 => (if 100 < (xo15.size : Int) then ((some false).map Sum.inl).map Sum.inl else F11_l15  xs (o15_0 + 1))
def F11_l10  : List Requirement → Nat → Option ((Bool) ⊕ (Unit))
  | [], o10_0 => some (Sum.inr (()))
  | xo10 :: xs, o10_0 => (((if 100 < (xo10.Key.size : Int) then some true else some (decide (100 < (xo10.Values.length : Int))))).bind fun o12 => (if o12 = true then (some false).map Sum.inl else (((ck (0 ≤ xo10.Values.length ∧ xo10.Values.length ≤ 4294967290)).bind fun u18 => F11_l15 xo10.Values 0 : Option (((Bool) ⊕ (Unit)) ⊕ (Unit))).bind fun o15 => match o15 with | Sum.inl f => some f | Sum.inr po15 => F11_l10  xs (o10_0 + 1))))
def F11 (x0 : (List Label)) (x1 : (List Requirement)) : Option (Bool) := (((if 40 < (x0.length : Int) then some true else some (decide (40 < (x1.length : Int))))).bind fun o1 => (if o1 = true then some false else (((ck (0 ≤ x0.length ∧ x0.length ≤ 4294967290)).bind fun u9 => F11_l4 x0 0 : Option ((Bool) ⊕ (Unit))).bind fun o4 => match o4 with | Sum.inl f => some f | Sum.inr po4 => (((ck (0 ≤ x1.length ∧ x1.length ≤ 4294967290)).bind fun u19 => F11_l10 x1 0 : Option ((Bool) ⊕ (Unit))).bind fun o10 => match o10 with | Sum.inl f => some f | Sum.inr po10 => some true))))
def a11 : AFn := ⟨64, [(.tmp 4)],
 (.seq (.reg [⟨(some 4), none, .mv (kB false), [], (.new [])⟩])
 (.seq (.seq (.sem (.reg [⟨(some 11), none, .mv (.t 0), [], (.new [])⟩,
   ⟨(some 12), none, .len (.t 11), [], (.new [])⟩,
   ⟨(some 13), none, .bin .gtr (.t 12) (kI 40), [], (.new [])⟩,
   ⟨(some 14), none, .mv (.t 13), [], (.new [])⟩,
   ⟨(some 15), (some (14, false)), .mv (.t 1), [], (.new [])⟩,
   ⟨(some 16), (some (14, false)), .len (.t 15), [], (.new [])⟩,
   ⟨(some 17), (some (14, false)), .bin .gtr (.t 16) (kI 40), [], (.new [])⟩,
   ⟨(some 18), none, .pick (.t 14) (kB true) (.t 17), [], (.lone [11, 15])⟩]))
 (.cond (.t 18)
 (.seq (.reg [⟨(some 4), none, .mv (kB false), [], (.new [])⟩])
 .ret)
 .skip))
 (.seq (.seq (.reg [⟨(some 19), none, .mv (.t 0), [], (.new [])⟩,
   ⟨(some 20), none, .len (.t 19), [], (.new [])⟩,
   ⟨(some 21), none, .mv (kI 0), [], (.new [])⟩])
 (.sem (.block 0 (.loop (.seq (.reg [⟨(some 22), none, .bin .lss (.t 21) (.t 20), [], (.new [])⟩])
 (.seq (.cond (.t 22)
 .skip
 (.exit 0))
 (.seq (.block 1 (.seq (.reg [⟨(some 23), none, .indexA 2 (.t 19) (.t 21), [], (.new [])⟩,
   ⟨(some 24), none, .load (some 2) (.t 23), [], (.new [])⟩,
   ⟨(some 6), none, .zbox [.d (.v (.string ⟨#[]⟩)), .d (.v (.string ⟨#[]⟩))], [], (.new [])⟩,
   ⟨none, none, .store 2 (.t 6) (.t 24), [], (.new [])⟩])
 (.seq (.sem (.reg [⟨(some 25), none, .fieldA 0 (.t 6), [], (.new [])⟩,
   ⟨(some 26), none, .load none (.t 25), [], (.new [])⟩,
   ⟨(some 27), none, .slen (.t 26), [], (.new [])⟩,
   ⟨(some 28), none, .bin .gtr (.t 27) (kI 100), [], (.new [])⟩,
   ⟨(some 29), none, .mv (.t 28), [], (.new [])⟩,
   ⟨(some 30), (some (29, false)), .fieldA 1 (.t 6), [], (.new [])⟩,
   ⟨(some 31), (some (29, false)), .load none (.t 30), [], (.new [])⟩,
   ⟨(some 32), (some (29, false)), .slen (.t 31), [], (.new [])⟩,
   ⟨(some 33), (some (29, false)), .bin .gtr (.t 32) (kI 100), [], (.new [])⟩,
   ⟨(some 34), none, .pick (.t 29) (kB true) (.t 33), [], (.lone [6, 25, 6, 30])⟩]))
 (.cond (.t 34)
 (.seq (.reg [⟨(some 4), none, .mv (kB false), [], (.new [])⟩])
 .ret)
 .skip))))
 (.reg [⟨(some 35), none, .bin .add (.t 21) (kI 1), [], (.new [])⟩,
   ⟨(some 21), none, .mv (.t 35), [], (.new [])⟩]))))))))
 (.seq (.seq (.reg [⟨(some 36), none, .mv (.t 1), [], (.new [])⟩,
   ⟨(some 37), none, .len (.t 36), [], (.new [])⟩,
   ⟨(some 38), none, .mv (kI 0), [], (.new [])⟩])
 (.sem (.block 2 (.loop (.seq (.reg [⟨(some 39), none, .bin .lss (.t 38) (.t 37), [], (.new [])⟩])
 (.seq (.cond (.t 39)
 .skip
 (.exit 2))
 (.seq (.block 3 (.seq (.reg [⟨(some 40), none, .indexA 3 (.t 36) (.t 38), [], (.new [])⟩,
   ⟨(some 41), none, .load (some 3) (.t 40), [], (.new [])⟩,
   ⟨(some 8), none, .zbox [.d (.v (.string ⟨#[]⟩)), .d (.v (.int .i64 0)), .d (.v (.slice none 0 0))], [], (.new [])⟩,
   ⟨none, none, .store 3 (.t 8) (.t 41), [], (.new [])⟩])
 (.seq (.seq (.sem (.reg [⟨(some 42), none, .fieldA 0 (.t 8), [], (.new [])⟩,
   ⟨(some 43), none, .load none (.t 42), [], (.new [])⟩,
   ⟨(some 44), none, .slen (.t 43), [], (.new [])⟩,
   ⟨(some 45), none, .bin .gtr (.t 44) (kI 100), [], (.new [])⟩,
   ⟨(some 46), none, .mv (.t 45), [], (.new [])⟩,
   ⟨(some 47), (some (46, false)), .fieldA 2 (.t 8), [], (.new [])⟩,
   ⟨(some 48), (some (46, false)), .load none (.t 47), [], (.new [])⟩,
   ⟨(some 49), (some (46, false)), .len (.t 48), [], (.new [])⟩,
   ⟨(some 50), (some (46, false)), .bin .gtr (.t 49) (kI 100), [], (.new [])⟩,
   ⟨(some 51), none, .pick (.t 46) (kB true) (.t 50), [], (.lone [8, 42, 8, 47, 48])⟩]))
 (.cond (.t 51)
 (.seq (.reg [⟨(some 4), none, .mv (kB false), [], (.new [])⟩])
 .ret)
 .skip))
 (.seq (.reg [⟨(some 52), none, .fieldA 2 (.t 8), [], (.new [])⟩,
   ⟨(some 53), none, .load none (.t 52), [], (.new [])⟩,
   ⟨(some 54), none, .len (.t 53), [], (.new [])⟩,
   ⟨(some 55), none, .mv (kI 0), [], (.new [])⟩])
 (.sem (.block 4 (.loop (.seq (.reg [⟨(some 56), none, .bin .lss (.t 55) (.t 54), [], (.new [])⟩])
 (.seq (.cond (.t 56)
 .skip
 (.exit 4))
 (.seq (.block 5 (.seq (.reg [⟨(some 57), none, .indexA 1 (.t 53) (.t 55), [], (.new [])⟩,
   ⟨(some 58), none, .load none (.t 57), [], (.new [])⟩,
   ⟨(some 10), none, .mv (.t 58), [], (.new [])⟩])
 (.seq (.reg [⟨(some 59), none, .mv (.t 10), [], (.new [])⟩,
   ⟨(some 60), none, .slen (.t 59), [], (.new [])⟩,
   ⟨(some 61), none, .bin .gtr (.t 60) (kI 100), [], (.new [])⟩])
 (.cond (.t 61)
 (.seq (.reg [⟨(some 4), none, .mv (kB false), [], (.new [])⟩])
 .ret)
 .skip))))
 (.reg [⟨(some 62), none, .bin .add (.t 55) (kI 1), [], (.new [])⟩,
   ⟨(some 55), none, .mv (.t 62), [], (.new [])⟩])))))))))))
 (.reg [⟨(some 63), none, .bin .add (.t 38) (kI 1), [], (.new [])⟩,
   ⟨(some 38), none, .mv (.t 63), [], (.new [])⟩]))))))))
 (.seq (.reg [⟨(some 4), none, .mv (kB true), [], (.new [])⟩])
 .ret)))))⟩
theorem a11_ok : afn Try.prog 11 = some a11.er := by kernel_rfl
theorem F11_ok {x0 : (List Label)} {x1 : (List Requirement)} {r : Bool} (h : F11 x0 x1 = some r) : CallD Try.prog 11 [.c (.d (.sl (x0.map eLabel))), .c (.d (.sl (x1.map eRequirement)))] [] (tupV [.c (.d (.v (.bool r)))]) [] := by
  refine callS a11_ok (by simp [a11]) ?_
  rw [F11] at h
  simp only [a11, VW.down, Nat.reduceEqDiff, reduceCtorEq, Nat.reduceAdd, Nat.reduceLeDiff, Nat.reduceLT, Nat.reduceBEq, Nat.reduceSub, EE.down]
  obtain ⟨o1, ho, h⟩ := Option.bind_eq_some_iff.1 h
  refine cutS (fun s => s = ⟨[(0, .one (.c (.d (.sl (x0.map eLabel))))), (1, .one (.c (.d (.sl (x1.map eRequirement))))), (18, .one (.c (.d (.v (.bool o1)))))], []⟩) ?_ ?_
  · have h := ho
    clear ho
    simp only [VW.down, Nat.reduceEqDiff, reduceCtorEq, Nat.reduceAdd, Nat.reduceLeDiff, Nat.reduceLT, Nat.reduceBEq, Nat.reduceSub, EE.down]
    refine guardS (fun g2 => ?_) (fun g2 => ?_)
    · have h := (if_pos g2).symm.trans h
      simp only [VW.down, Nat.reduceEqDiff, reduceCtorEq, Nat.reduceAdd, Nat.reduceLeDiff, Nat.reduceLT, Nat.reduceBEq, Nat.reduceSub, EE.down]
      obtain rfl := Option.some.inj h
      exact eM [] rfl
    · have h := (if_neg g2).symm.trans h
      simp only [VW.down, Nat.reduceEqDiff, reduceCtorEq, Nat.reduceAdd, Nat.reduceLeDiff, Nat.reduceLT, Nat.reduceBEq, Nat.reduceSub, EE.down]
      obtain rfl := Option.some.inj h
      exact eM [] rfl
  · rintro _ rfl
    clear ho
    simp only [VW.down, Nat.reduceEqDiff, reduceCtorEq, Nat.reduceAdd, Nat.reduceLeDiff, Nat.reduceLT, Nat.reduceBEq, Nat.reduceSub, EE.down]
    refine condB (fun c3 => ?_) (fun c3 => ?_)
    · have h := (if_pos c3).symm.trans h
      simp only [VW.down, Nat.reduceEqDiff, reduceCtorEq, Nat.reduceAdd, Nat.reduceLeDiff, Nat.reduceLT, Nat.reduceBEq, Nat.reduceSub, EE.down]
      obtain rfl := Option.some.inj h
      exact eF []
    · have h := (if_neg c3).symm.trans h
      simp only [VW.down, Nat.reduceEqDiff, reduceCtorEq, Nat.reduceAdd, Nat.reduceLeDiff, Nat.reduceLT, Nat.reduceBEq, Nat.reduceSub, EE.down]
      obtain ⟨o4, ho, h⟩ := Option.bind_eq_some_iff.1 h
      refine cutS (fun s => ∃ po4, o4 = Sum.inr po4 ∧ s = ⟨[(1, .one (.c (.d (.sl (x1.map eRequirement)))))], []⟩) ?_ ?_
      · have h0o4 := h
        have h := ho
        clear ho
        obtain ⟨_, hk, h⟩ := Option.bind_eq_some_iff.1 h
        have hk := ck_some hk
        simp only [VW.down, Nat.reduceEqDiff, reduceCtorEq, Nat.reduceAdd, Nat.reduceLeDiff, Nat.reduceLT, Nat.reduceBEq, Nat.reduceSub, EE.down]
        refine bL (fun j s => ∃ (o4_0 : Nat), (o4_0 ≤ x0.length ∧ j = x0.length - o4_0) ∧ s = ⟨[(1, .one (.c (.d (.sl (x1.map eRequirement))))), (19, .one (.c (.d (.sl (x0.map eLabel))))), (20, .one (.c (.d (.v (.int .i64 ((x0.length : Int))))))), (21, .one (.c (.d (.v (.int .i64 ((o4_0 : Int)))))))], []⟩ ∧ F11_l4 (x0.drop o4_0) o4_0 = some o4) (x0.length - 0) [] ⟨0, ⟨hk.1, rfl⟩, rfl, h⟩ ?_
        rintro _ _ ⟨o4_0, ⟨hi, rfl⟩, rfl, h⟩
        simp only [VW.down, Nat.reduceEqDiff, reduceCtorEq, Nat.reduceAdd, Nat.reduceLeDiff, Nat.reduceLT, Nat.reduceBEq, Nat.reduceSub, EE.down]
        refine condS (fun c5 => ?_) (fun c5 => ?_)
        · obtain ⟨xo4, hxo4, hd⟩ := countY (show (o4_0 : Int) < (x0.length : Int) from c5)
          rw [hd, F11_l4] at h
          simp only [VW.down, Nat.reduceEqDiff, reduceCtorEq, Nat.reduceAdd, Nat.reduceLeDiff, Nat.reduceLT, Nat.reduceBEq, Nat.reduceSub, EE.down]
          refine t_idxF (enc := eLabel) (xs := x0) rfl rfl hxo4 rfl ?_
          simp only [VW.down, Nat.reduceEqDiff, reduceCtorEq, Nat.reduceAdd, Nat.reduceLeDiff, Nat.reduceLT, Nat.reduceBEq, Nat.reduceSub, EE.down]
          obtain ⟨o6, ho, h⟩ := Option.bind_eq_some_iff.1 h
          refine cutS (fun s => s = ⟨[(1, .one (.c (.d (.sl (x1.map eRequirement))))), (19, .one (.c (.d (.sl (x0.map eLabel))))), (20, .one (.c (.d (.v (.int .i64 ((x0.length : Int))))))), (21, .one (.c (.d (.v (.int .i64 ((o4_0 : Int))))))), (34, .one (.c (.d (.v (.bool o6)))))], []⟩) ?_ ?_
          · have h := ho
            clear ho
            simp only [VW.down, Nat.reduceEqDiff, reduceCtorEq, Nat.reduceAdd, Nat.reduceLeDiff, Nat.reduceLT, Nat.reduceBEq, Nat.reduceSub, EE.down]
            refine guardS (fun g7 => ?_) (fun g7 => ?_)
            · have h := (if_pos g7).symm.trans h
              simp only [VW.down, Nat.reduceEqDiff, reduceCtorEq, Nat.reduceAdd, Nat.reduceLeDiff, Nat.reduceLT, Nat.reduceBEq, Nat.reduceSub, EE.down]
              obtain rfl := Option.some.inj h
              exact eM [] rfl
            · have h := (if_neg g7).symm.trans h
              simp only [VW.down, Nat.reduceEqDiff, reduceCtorEq, Nat.reduceAdd, Nat.reduceLeDiff, Nat.reduceLT, Nat.reduceBEq, Nat.reduceSub, EE.down]
              obtain rfl := Option.some.inj h
              exact eM [] rfl
          · rintro _ rfl
            clear ho
            simp only [VW.down, Nat.reduceEqDiff, reduceCtorEq, Nat.reduceAdd, Nat.reduceLeDiff, Nat.reduceLT, Nat.reduceBEq, Nat.reduceSub, EE.down]
            refine condB (fun c8 => ?_) (fun c8 => ?_)
            · have h := (if_pos c8).symm.trans h
              simp only [VW.down, Nat.reduceEqDiff, reduceCtorEq, Nat.reduceAdd, Nat.reduceLeDiff, Nat.reduceLT, Nat.reduceBEq, Nat.reduceSub, EE.down]
              obtain ⟨fh0o4, hfh0o4, rfl⟩ := Option.map_eq_some_iff.1 h
              have h := hfh0o4.trans h0o4
              obtain rfl := Option.some.inj h
              exact eF []
            · have h := (if_neg c8).symm.trans h
              simp only [VW.down, Nat.reduceEqDiff, reduceCtorEq, Nat.reduceAdd, Nat.reduceLeDiff, Nat.reduceLT, Nat.reduceBEq, Nat.reduceSub, EE.down]
              rw [wrapN (by omega)]
              exact eL' (x0.length - (o4_0 + 1)) [] ⟨o4_0 + 1, ⟨by omega, rfl⟩, rfl, h⟩ (by omega)
        · rw [countN (show ¬ ((o4_0 : Int) < (x0.length : Int)) from c5), F11_l4] at h
          simp only [VW.down, Nat.reduceEqDiff, reduceCtorEq, Nat.reduceAdd, Nat.reduceLeDiff, Nat.reduceLT, Nat.reduceBEq, Nat.reduceSub, EE.down]
          obtain rfl := Option.some.inj h
          exact eM [] ⟨_, rfl, rfl⟩
      · rintro _ ⟨po4, rfl, rfl⟩
        clear ho
        dsimp only at h
        simp only [VW.down, Nat.reduceEqDiff, reduceCtorEq, Nat.reduceAdd, Nat.reduceLeDiff, Nat.reduceLT, Nat.reduceBEq, Nat.reduceSub, EE.down]
        obtain ⟨o10, ho, h⟩ := Option.bind_eq_some_iff.1 h
        refine cutS (fun s => ∃ po10, o10 = Sum.inr po10 ∧ s = ⟨[], []⟩) ?_ ?_
        · have h0o10 := h
          have h := ho
          clear ho
          obtain ⟨_, hk, h⟩ := Option.bind_eq_some_iff.1 h
          have hk := ck_some hk
          simp only [VW.down, Nat.reduceEqDiff, reduceCtorEq, Nat.reduceAdd, Nat.reduceLeDiff, Nat.reduceLT, Nat.reduceBEq, Nat.reduceSub, EE.down]
          refine bL (fun j s => ∃ (o10_0 : Nat), (o10_0 ≤ x1.length ∧ j = x1.length - o10_0) ∧ s = ⟨[(36, .one (.c (.d (.sl (x1.map eRequirement))))), (37, .one (.c (.d (.v (.int .i64 ((x1.length : Int))))))), (38, .one (.c (.d (.v (.int .i64 ((o10_0 : Int)))))))], []⟩ ∧ F11_l10 (x1.drop o10_0) o10_0 = some o10) (x1.length - 0) [] ⟨0, ⟨hk.1, rfl⟩, rfl, h⟩ ?_
          rintro _ _ ⟨o10_0, ⟨hi, rfl⟩, rfl, h⟩
          simp only [VW.down, Nat.reduceEqDiff, reduceCtorEq, Nat.reduceAdd, Nat.reduceLeDiff, Nat.reduceLT, Nat.reduceBEq, Nat.reduceSub, EE.down]
          refine condS (fun c11 => ?_) (fun c11 => ?_)
          · obtain ⟨xo10, hxo10, hd⟩ := countY (show (o10_0 : Int) < (x1.length : Int) from c11)
            rw [hd, F11_l10] at h
            simp only [VW.down, Nat.reduceEqDiff, reduceCtorEq, Nat.reduceAdd, Nat.reduceLeDiff, Nat.reduceLT, Nat.reduceBEq, Nat.reduceSub, EE.down]
            refine t_idxF (enc := eRequirement) (xs := x1) rfl rfl hxo10 rfl ?_
            simp only [VW.down, Nat.reduceEqDiff, reduceCtorEq, Nat.reduceAdd, Nat.reduceLeDiff, Nat.reduceLT, Nat.reduceBEq, Nat.reduceSub, EE.down]
            obtain ⟨o12, ho, h⟩ := Option.bind_eq_some_iff.1 h
            refine cutS (fun s => s = ⟨[(8, .one (.c (.pt 0 0))), (36, .one (.c (.d (.sl (x1.map eRequirement))))), (37, .one (.c (.d (.v (.int .i64 ((x1.length : Int))))))), (38, .one (.c (.d (.v (.int .i64 ((o10_0 : Int))))))), (51, .one (.c (.d (.v (.bool o12)))))], [some (.box [.d (.v (.string xo10.Key)), .d (.v (.int .i64 xo10.Op)), .d (.sl (xo10.Values.map eS))])]⟩) ?_ ?_
            · have h := ho
              clear ho
              simp only [VW.down, Nat.reduceEqDiff, reduceCtorEq, Nat.reduceAdd, Nat.reduceLeDiff, Nat.reduceLT, Nat.reduceBEq, Nat.reduceSub, EE.down]
              refine guardS (fun g13 => ?_) (fun g13 => ?_)
              · have h := (if_pos g13).symm.trans h
                simp only [VW.down, Nat.reduceEqDiff, reduceCtorEq, Nat.reduceAdd, Nat.reduceLeDiff, Nat.reduceLT, Nat.reduceBEq, Nat.reduceSub, EE.down]
                obtain rfl := Option.some.inj h
                exact eM [some 0] rfl
              · have h := (if_neg g13).symm.trans h
                simp only [VW.down, Nat.reduceEqDiff, reduceCtorEq, Nat.reduceAdd, Nat.reduceLeDiff, Nat.reduceLT, Nat.reduceBEq, Nat.reduceSub, EE.down]
                obtain rfl := Option.some.inj h
                exact eM [some 0] rfl
            · rintro _ rfl
              clear ho
              simp only [VW.down, Nat.reduceEqDiff, reduceCtorEq, Nat.reduceAdd, Nat.reduceLeDiff, Nat.reduceLT, Nat.reduceBEq, Nat.reduceSub, EE.down]
              refine condB (fun c14 => ?_) (fun c14 => ?_)
              · have h := (if_pos c14).symm.trans h
                simp only [VW.down, Nat.reduceEqDiff, reduceCtorEq, Nat.reduceAdd, Nat.reduceLeDiff, Nat.reduceLT, Nat.reduceBEq, Nat.reduceSub, EE.down]
                obtain ⟨fh0o10, hfh0o10, rfl⟩ := Option.map_eq_some_iff.1 h
                have h := hfh0o10.trans h0o10
                obtain rfl := Option.some.inj h
                exact eF []
              · have h := (if_neg c14).symm.trans h
                simp only [VW.down, Nat.reduceEqDiff, reduceCtorEq, Nat.reduceAdd, Nat.reduceLeDiff, Nat.reduceLT, Nat.reduceBEq, Nat.reduceSub, EE.down]
                obtain ⟨o15, ho, h⟩ := Option.bind_eq_some_iff.1 h
                refine cutS (fun s => ∃ po15, o15 = Sum.inr po15 ∧ s = ⟨[(36, .one (.c (.d (.sl (x1.map eRequirement))))), (37, .one (.c (.d (.v (.int .i64 ((x1.length : Int))))))), (38, .one (.c (.d (.v (.int .i64 ((o10_0 : Int)))))))], []⟩) ?_ ?_
                · have h0o15 := h
                  have h := ho
                  clear ho
                  obtain ⟨_, hk, h⟩ := Option.bind_eq_some_iff.1 h
                  have hk := ck_some hk
                  simp only [VW.down, Nat.reduceEqDiff, reduceCtorEq, Nat.reduceAdd, Nat.reduceLeDiff, Nat.reduceLT, Nat.reduceBEq, Nat.reduceSub, EE.down]
                  refine bL (fun j s => ∃ (o15_0 : Nat), (o15_0 ≤ xo10.Values.length ∧ j = xo10.Values.length - o15_0) ∧ s = ⟨[(36, .one (.c (.d (.sl (x1.map eRequirement))))), (37, .one (.c (.d (.v (.int .i64 ((x1.length : Int))))))), (38, .one (.c (.d (.v (.int .i64 ((o10_0 : Int))))))), (53, .one (.c (.d (.sl (xo10.Values.map eS))))), (54, .one (.c (.d (.v (.int .i64 ((xo10.Values.length : Int))))))), (55, .one (.c (.d (.v (.int .i64 ((o15_0 : Int)))))))], []⟩ ∧ F11_l15 (xo10.Values.drop o15_0) o15_0 = some o15) (xo10.Values.length - 0) [] ⟨0, ⟨hk.1, rfl⟩, rfl, h⟩ ?_
                  rintro _ _ ⟨o15_0, ⟨hi, rfl⟩, rfl, h⟩
                  simp only [VW.down, Nat.reduceEqDiff, reduceCtorEq, Nat.reduceAdd, Nat.reduceLeDiff, Nat.reduceLT, Nat.reduceBEq, Nat.reduceSub, EE.down]
                  refine condS (fun c16 => ?_) (fun c16 => ?_)
                  · obtain ⟨xo15, hxo15, hd⟩ := countY (show (o15_0 : Int) < (xo10.Values.length : Int) from c16)
                    rw [hd, F11_l15] at h
                    simp only [VW.down, Nat.reduceEqDiff, reduceCtorEq, Nat.reduceAdd, Nat.reduceLeDiff, Nat.reduceLT, Nat.reduceBEq, Nat.reduceSub, EE.down]
                    refine t_idxF (enc := eS) (xs := xo10.Values) rfl rfl hxo15 rfl ?_
                    simp only [VW.down, Nat.reduceEqDiff, reduceCtorEq, Nat.reduceAdd, Nat.reduceLeDiff, Nat.reduceLT, Nat.reduceBEq, Nat.reduceSub, EE.down]
                    refine condS (fun c17 => ?_) (fun c17 => ?_)
                    · have h := (if_pos c17).symm.trans h
                      simp only [VW.down, Nat.reduceEqDiff, reduceCtorEq, Nat.reduceAdd, Nat.reduceLeDiff, Nat.reduceLT, Nat.reduceBEq, Nat.reduceSub, EE.down]
                      obtain ⟨fh0o15, hfh0o15, rfl⟩ := Option.map_eq_some_iff.1 h
                      have h := hfh0o15.trans h0o15
                      obtain ⟨fh0o10, hfh0o10, rfl⟩ := Option.map_eq_some_iff.1 h
                      have h := hfh0o10.trans h0o10
                      obtain rfl := Option.some.inj h
                      exact eF []
                    · have h := (if_neg c17).symm.trans h
                      simp only [VW.down, Nat.reduceEqDiff, reduceCtorEq, Nat.reduceAdd, Nat.reduceLeDiff, Nat.reduceLT, Nat.reduceBEq, Nat.reduceSub, EE.down]
                      rw [wrapN (by omega)]
                      exact eL' (xo10.Values.length - (o15_0 + 1)) [] ⟨o15_0 + 1, ⟨by omega, rfl⟩, rfl, h⟩ (by omega)
                  · rw [countN (show ¬ ((o15_0 : Int) < (xo10.Values.length : Int)) from c16), F11_l15] at h
                    simp only [VW.down, Nat.reduceEqDiff, reduceCtorEq, Nat.reduceAdd, Nat.reduceLeDiff, Nat.reduceLT, Nat.reduceBEq, Nat.reduceSub, EE.down]
                    obtain rfl := Option.some.inj h
                    exact eM [] ⟨_, rfl, rfl⟩
                · rintro _ ⟨po15, rfl, rfl⟩
                  clear ho
                  dsimp only at h
                  simp only [VW.down, Nat.reduceEqDiff, reduceCtorEq, Nat.reduceAdd, Nat.reduceLeDiff, Nat.reduceLT, Nat.reduceBEq, Nat.reduceSub, EE.down]
                  rw [wrapN (by omega)]
                  exact eL' (x1.length - (o10_0 + 1)) [] ⟨o10_0 + 1, ⟨by omega, rfl⟩, rfl, h⟩ (by omega)
          · rw [countN (show ¬ ((o10_0 : Int) < (x1.length : Int)) from c11), F11_l10] at h
            simp only [VW.down, Nat.reduceEqDiff, reduceCtorEq, Nat.reduceAdd, Nat.reduceLeDiff, Nat.reduceLT, Nat.reduceBEq, Nat.reduceSub, EE.down]
            obtain rfl := Option.some.inj h
            exact eM [] ⟨_, rfl, rfl⟩
        · rintro _ ⟨po10, rfl, rfl⟩
          clear ho
          dsimp only at h
          simp only [VW.down, Nat.reduceEqDiff, reduceCtorEq, Nat.reduceAdd, Nat.reduceLeDiff, Nat.reduceLT, Nat.reduceBEq, Nat.reduceSub, EE.down]
          obtain rfl := Option.some.inj h
          exact eF []

/- orchestrator/label.wordByte -/
def F51 (x0 : Int) : Option (Bool) := (((if 97 ≤ x0 then (if x0 ≤ 122 then some true else (if 48 ≤ x0 then (if x0 ≤ 57 then some true else (if x0 = 45 then some true else (if x0 = 46 then some true else some (decide (x0 = 47))))) else (if x0 = 45 then some true else (if x0 = 46 then some true else some (decide (x0 = 47)))))) else (if 48 ≤ x0 then (if x0 ≤ 57 then some true else (if x0 = 45 then some true else (if x0 = 46 then some true else some (decide (x0 = 47))))) else (if x0 = 45 then some true else (if x0 = 46 then some true else some (decide (x0 = 47))))))).bind fun o1 => some o1)
def a51 : AFn := ⟨29, [(.tmp 2)],
 (.seq (.reg [⟨(some 2), none, .mv (kB false), [], (.new [])⟩])
 (.seq (.sem (.reg [⟨(some 3), none, .mv (.t 0), [], (.new [])⟩,
   ⟨(some 4), none, .bin .geq (.t 3) (.k (.c (.d (.v (.int .u8 97))))), [], (.new [])⟩,
   ⟨(some 5), none, .mv (.t 4), [], (.new [])⟩,
   ⟨(some 6), (some (5, true)), .mv (.t 0), [], (.new [])⟩,
   ⟨(some 7), (some (5, true)), .bin .leq (.t 6) (.k (.c (.d (.v (.int .u8 122))))), [], (.new [])⟩,
   ⟨(some 8), none, .pick (.t 5) (.t 7) (kB false), [], (.new [])⟩,
   ⟨(some 9), none, .mv (.t 8), [], (.new [])⟩,
   ⟨(some 10), (some (9, false)), .mv (.t 0), [], (.new [])⟩,
   ⟨(some 11), (some (9, false)), .bin .geq (.t 10) (.k (.c (.d (.v (.int .u8 48))))), [], (.new [])⟩,
   ⟨(some 12), (some (9, false)), .mv (.t 11), [], (.new [])⟩,
   ⟨(some 13), (some (12, true)), .mv (.t 0), [], (.new [])⟩,
   ⟨(some 14), (some (12, true)), .bin .leq (.t 13) (.k (.c (.d (.v (.int .u8 57))))), [], (.new [])⟩,
   ⟨(some 15), (some (9, false)), .pick (.t 12) (.t 14) (kB false), [], (.new [])⟩,
   ⟨(some 16), none, .pick (.t 9) (kB true) (.t 15), [], (.new [])⟩,
   ⟨(some 17), none, .mv (.t 16), [], (.new [])⟩,
   ⟨(some 18), (some (17, false)), .mv (.t 0), [], (.new [])⟩,
   ⟨(some 19), (some (17, false)), .bin .eql (.t 18) (.k (.c (.d (.v (.int .u8 45))))), [], (.new [])⟩,
   ⟨(some 20), none, .pick (.t 17) (kB true) (.t 19), [], (.new [])⟩,
   ⟨(some 21), none, .mv (.t 20), [], (.new [])⟩,
   ⟨(some 22), (some (21, false)), .mv (.t 0), [], (.new [])⟩,
   ⟨(some 23), (some (21, false)), .bin .eql (.t 22) (.k (.c (.d (.v (.int .u8 46))))), [], (.new [])⟩,
   ⟨(some 24), none, .pick (.t 21) (kB true) (.t 23), [], (.new [])⟩,
   ⟨(some 25), none, .mv (.t 24), [], (.new [])⟩,
   ⟨(some 26), (some (25, false)), .mv (.t 0), [], (.new [])⟩,
   ⟨(some 27), (some (25, false)), .bin .eql (.t 26) (.k (.c (.d (.v (.int .u8 47))))), [], (.new [])⟩,
   ⟨(some 28), none, .pick (.t 25) (kB true) (.t 27), [], (.new [])⟩,
   ⟨(some 2), none, .mv (.t 28), [], (.new [])⟩]))
 .ret))⟩
theorem a51_ok : afn Try.prog 51 = some a51.er := by kernel_rfl
theorem F51_ok {x0 : Int} {r : Bool} (h : F51 x0 = some r) : CallD Try.prog 51 [.c (.d (.v (.int .u8 x0)))] [] (tupV [.c (.d (.v (.bool r)))]) [] := by
  refine callS a51_ok (by simp [a51]) ?_
  rw [F51] at h
  simp only [a51, VW.down, Nat.reduceEqDiff, reduceCtorEq, Nat.reduceAdd, Nat.reduceLeDiff, Nat.reduceLT, Nat.reduceBEq, Nat.reduceSub, EE.down]
  obtain ⟨o1, ho, h⟩ := Option.bind_eq_some_iff.1 h
  refine cutS (fun s => s = ⟨[(2, .one (.c (.d (.v (.bool o1)))))], []⟩) ?_ ?_
  · have h := ho
    clear ho
    simp only [VW.down, Nat.reduceEqDiff, reduceCtorEq, Nat.reduceAdd, Nat.reduceLeDiff, Nat.reduceLT, Nat.reduceBEq, Nat.reduceSub, EE.down]
    refine guardS (fun g2 => ?_) (fun g2 => ?_)
    · have h := (if_pos g2).symm.trans h
      simp only [VW.down, Nat.reduceEqDiff, reduceCtorEq, Nat.reduceAdd, Nat.reduceLeDiff, Nat.reduceLT, Nat.reduceBEq, Nat.reduceSub, EE.down]
      refine guardS (fun g3 => ?_) (fun g3 => ?_)
      · have h := (if_pos g3).symm.trans h
        simp only [VW.down, Nat.reduceEqDiff, reduceCtorEq, Nat.reduceAdd, Nat.reduceLeDiff, Nat.reduceLT, Nat.reduceBEq, Nat.reduceSub, EE.down]
        obtain rfl := Option.some.inj h
        exact eM [] rfl
      · have h := (if_neg g3).symm.trans h
        simp only [VW.down, Nat.reduceEqDiff, reduceCtorEq, Nat.reduceAdd, Nat.reduceLeDiff, Nat.reduceLT, Nat.reduceBEq, Nat.reduceSub, EE.down]
        refine guardS (fun g4 => ?_) (fun g4 => ?_)
        · have h := (if_pos g4).symm.trans h
          simp only [VW.down, Nat.reduceEqDiff, reduceCtorEq, Nat.reduceAdd, Nat.reduceLeDiff, Nat.reduceLT, Nat.reduceBEq, Nat.reduceSub, EE.down]
          refine guardS (fun g5 => ?_) (fun g5 => ?_)
          · have h := (if_pos g5).symm.trans h
            simp only [VW.down, Nat.reduceEqDiff, reduceCtorEq, Nat.reduceAdd, Nat.reduceLeDiff, Nat.reduceLT, Nat.reduceBEq, Nat.reduceSub, EE.down]
            obtain rfl := Option.some.inj h
            exact eM [] rfl
          · have h := (if_neg g5).symm.trans h
            simp only [VW.down, Nat.reduceEqDiff, reduceCtorEq, Nat.reduceAdd, Nat.reduceLeDiff, Nat.reduceLT, Nat.reduceBEq, Nat.reduceSub, EE.down]
            refine guardS (fun g6 => ?_) (fun g6 => ?_)
            · have h := (if_pos g6).symm.trans h
              simp only [VW.down, Nat.reduceEqDiff, reduceCtorEq, Nat.reduceAdd, Nat.reduceLeDiff, Nat.reduceLT, Nat.reduceBEq, Nat.reduceSub, EE.down]
              obtain rfl := Option.some.inj h
              exact eM [] rfl
            · have h := (if_neg g6).symm.trans h
              simp only [VW.down, Nat.reduceEqDiff, reduceCtorEq, Nat.reduceAdd, Nat.reduceLeDiff, Nat.reduceLT, Nat.reduceBEq, Nat.reduceSub, EE.down]
              refine guardS (fun g7 => ?_) (fun g7 => ?_)
              · have h := (if_pos g7).symm.trans h
                simp only [VW.down, Nat.reduceEqDiff, reduceCtorEq, Nat.reduceAdd, Nat.reduceLeDiff, Nat.reduceLT, Nat.reduceBEq, Nat.reduceSub, EE.down]
                obtain rfl := Option.some.inj h
                exact eM [] rfl
              · have h := (if_neg g7).symm.trans h
                simp only [VW.down, Nat.reduceEqDiff, reduceCtorEq, Nat.reduceAdd, Nat.reduceLeDiff, Nat.reduceLT, Nat.reduceBEq, Nat.reduceSub, EE.down]
                obtain rfl := Option.some.inj h
                exact eM [] rfl
        · have h := (if_neg g4).symm.trans h
          simp only [VW.down, Nat.reduceEqDiff, reduceCtorEq, Nat.reduceAdd, Nat.reduceLeDiff, Nat.reduceLT, Nat.reduceBEq, Nat.reduceSub, EE.down]
          refine guardS (fun g8 => ?_) (fun g8 => ?_)
          · have h := (if_pos g8).symm.trans h
            simp only [VW.down, Nat.reduceEqDiff, reduceCtorEq, Nat.reduceAdd, Nat.reduceLeDiff, Nat.reduceLT, Nat.reduceBEq, Nat.reduceSub, EE.down]
            obtain rfl := Option.some.inj h
            exact eM [] rfl
          · have h := (if_neg g8).symm.trans h
            simp only [VW.down, Nat.reduceEqDiff, reduceCtorEq, Nat.reduceAdd, Nat.reduceLeDiff, Nat.reduceLT, Nat.reduceBEq, Nat.reduceSub, EE.down]
            refine guardS (fun g9 => ?_) (fun g9 => ?_)
            · have h := (if_pos g9).symm.trans h
              simp only [VW.down, Nat.reduceEqDiff, reduceCtorEq, Nat.reduceAdd, Nat.reduceLeDiff, Nat.reduceLT, Nat.reduceBEq, Nat.reduceSub, EE.down]
              obtain rfl := Option.some.inj h
              exact eM [] rfl
            · have h := (if_neg g9).symm.trans h
              simp only [VW.down, Nat.reduceEqDiff, reduceCtorEq, Nat.reduceAdd, Nat.reduceLeDiff, Nat.reduceLT, Nat.reduceBEq, Nat.reduceSub, EE.down]
              obtain rfl := Option.some.inj h
              exact eM [] rfl
    · have h := (if_neg g2).symm.trans h
      simp only [VW.down, Nat.reduceEqDiff, reduceCtorEq, Nat.reduceAdd, Nat.reduceLeDiff, Nat.reduceLT, Nat.reduceBEq, Nat.reduceSub, EE.down]
      refine guardS (fun g10 => ?_) (fun g10 => ?_)
      · have h := (if_pos g10).symm.trans h
        simp only [VW.down, Nat.reduceEqDiff, reduceCtorEq, Nat.reduceAdd, Nat.reduceLeDiff, Nat.reduceLT, Nat.reduceBEq, Nat.reduceSub, EE.down]
        refine guardS (fun g11 => ?_) (fun g11 => ?_)
        · have h := (if_pos g11).symm.trans h
          simp only [VW.down, Nat.reduceEqDiff, reduceCtorEq, Nat.reduceAdd, Nat.reduceLeDiff, Nat.reduceLT, Nat.reduceBEq, Nat.reduceSub, EE.down]
          obtain rfl := Option.some.inj h
          exact eM [] rfl
        · have h := (if_neg g11).symm.trans h
          simp only [VW.down, Nat.reduceEqDiff, reduceCtorEq, Nat.reduceAdd, Nat.reduceLeDiff, Nat.reduceLT, Nat.reduceBEq, Nat.reduceSub, EE.down]
          refine guardS (fun g12 => ?_) (fun g12 => ?_)
          · have h := (if_pos g12).symm.trans h
            simp only [VW.down, Nat.reduceEqDiff, reduceCtorEq, Nat.reduceAdd, Nat.reduceLeDiff, Nat.reduceLT, Nat.reduceBEq, Nat.reduceSub, EE.down]
            obtain rfl := Option.some.inj h
            exact eM [] rfl
          · have h := (if_neg g12).symm.trans h
            simp only [VW.down, Nat.reduceEqDiff, reduceCtorEq, Nat.reduceAdd, Nat.reduceLeDiff, Nat.reduceLT, Nat.reduceBEq, Nat.reduceSub, EE.down]
            refine guardS (fun g13 => ?_) (fun g13 => ?_)
            · have h := (if_pos g13).symm.trans h
              simp only [VW.down, Nat.reduceEqDiff, reduceCtorEq, Nat.reduceAdd, Nat.reduceLeDiff, Nat.reduceLT, Nat.reduceBEq, Nat.reduceSub, EE.down]
              obtain rfl := Option.some.inj h
              exact eM [] rfl
            · have h := (if_neg g13).symm.trans h
              simp only [VW.down, Nat.reduceEqDiff, reduceCtorEq, Nat.reduceAdd, Nat.reduceLeDiff, Nat.reduceLT, Nat.reduceBEq, Nat.reduceSub, EE.down]
              obtain rfl := Option.some.inj h
              exact eM [] rfl
      · have h := (if_neg g10).symm.trans h
        simp only [VW.down, Nat.reduceEqDiff, reduceCtorEq, Nat.reduceAdd, Nat.reduceLeDiff, Nat.reduceLT, Nat.reduceBEq, Nat.reduceSub, EE.down]
        refine guardS (fun g14 => ?_) (fun g14 => ?_)
        · have h := (if_pos g14).symm.trans h
          simp only [VW.down, Nat.reduceEqDiff, reduceCtorEq, Nat.reduceAdd, Nat.reduceLeDiff, Nat.reduceLT, Nat.reduceBEq, Nat.reduceSub, EE.down]
          obtain rfl := Option.some.inj h
          exact eM [] rfl
        · have h := (if_neg g14).symm.trans h
          simp only [VW.down, Nat.reduceEqDiff, reduceCtorEq, Nat.reduceAdd, Nat.reduceLeDiff, Nat.reduceLT, Nat.reduceBEq, Nat.reduceSub, EE.down]
          refine guardS (fun g15 => ?_) (fun g15 => ?_)
          · have h := (if_pos g15).symm.trans h
            simp only [VW.down, Nat.reduceEqDiff, reduceCtorEq, Nat.reduceAdd, Nat.reduceLeDiff, Nat.reduceLT, Nat.reduceBEq, Nat.reduceSub, EE.down]
            obtain rfl := Option.some.inj h
            exact eM [] rfl
          · have h := (if_neg g15).symm.trans h
            simp only [VW.down, Nat.reduceEqDiff, reduceCtorEq, Nat.reduceAdd, Nat.reduceLeDiff, Nat.reduceLT, Nat.reduceBEq, Nat.reduceSub, EE.down]
            obtain rfl := Option.some.inj h
            exact eM [] rfl
  · rintro _ rfl
    clear ho
    simp only [VW.down, Nat.reduceEqDiff, reduceCtorEq, Nat.reduceAdd, Nat.reduceLeDiff, Nat.reduceLT, Nat.reduceBEq, Nat.reduceSub, EE.down]
    obtain rfl := Option.some.inj h
    exact eF []

/- strings.Contains of one byte -/
def Try.laysCont_ren : Go.Shelf.Ren := ⟨fun | 144 => 59 | 143 => 72 | 219 => 81 | 217 => 86 | 225 => 87 | 224 => 88 | 267 => 89 | 266 => 101 | 314 => 102 | n => n, fun | 9 => 9 | 4 => 4 | 3 => 3 | 5 => 5 | 46 => 95 | 146 => 113 | 51 => 110 | n => n, fun | 1 => 0 | n => n⟩
theorem Try.laysCont : Go.Proofs.Lays.n144 Try.prog Try.laysCont_ren := {
  mixed := by kernel_rfl
  f143 := Try.func72.trans (congrArg some (by kernel_rfl))
  f144 := Try.func59.trans (congrArg some (by kernel_rfl))
  f217 := Try.func86.trans (congrArg some (by kernel_rfl))
  f219 := Try.func81.trans (congrArg some (by kernel_rfl))
  f224 := Try.func88.trans (congrArg some (by kernel_rfl))
  f225 := Try.func87.trans (congrArg some (by kernel_rfl))
  f266 := Try.func101.trans (congrArg some (by kernel_rfl))
  f267 := Try.func89.trans (congrArg some (by kernel_rfl))
  f314 := Try.func102.trans (congrArg some (by kernel_rfl))
  t3 := Try.underlying3
  a3 := Try.isAgg3
  z3 := Try.sizeOf3
  v3 := Try.zeroValue3
  t4 := Try.underlying4
  a4 := Try.isAgg4
  z4 := Try.sizeOf4
  v4 := Try.zeroValue4
  t5 := Try.underlying5
  a5 := Try.isAgg5
  z5 := Try.sizeOf5
  v5 := Try.zeroValue5
  t9 := Try.underlying9
  a9 := Try.isAgg9
  z9 := Try.sizeOf9
  v9 := Try.zeroValue9
  t46 := Try.underlying95
  a46 := Try.isAgg95
  z46 := Try.sizeOf95
  v46 := Try.zeroValue95
  t51 := Try.underlying110
  a51 := Try.isAgg110
  z51 := Try.sizeOf110
  v51 := Try.zeroValue110
  t146 := Try.underlying113
  a146 := Try.isAgg113
  z146 := Try.sizeOf113
  v146 := Try.zeroValue113
  g1 := by kernel_rfl }
theorem F59_ok {x0 x1 : ByteArray} {r : Bool} (h : contI x0 x1 = some r) : CallD Try.prog 59 [.c (.d (.v (.string x0))), .c (.d (.v (.string x1)))] [] (tupV [.c (.d (.v (.bool r)))]) [] := L_contains (ρ := Try.laysCont_ren) Try.laysCont rfl (by kernel_rfl) h

/- orchestrator/label.tokens -/
def F40_l8 (o1_1 : Int) (x0 : ByteArray) : Nat → Int → Option (Int)
  | 0, _ => none
  | k + 1, o8_0 => (((if (IntKind.i64.wrap (o1_1 + o8_0)) < (x0.size : Int) then (byI x0 ((IntKind.i64.wrap (o1_1 + o8_0)))).bind fun y11 => (F51 y11).bind fun t12 => some t12 else some false)).bind fun o9 => (if o9 = true then F40_l8 o1_1 x0 k ((IntKind.i64.wrap (o8_0 + 1))) else some o8_0))
def F40_l1 (x0 : ByteArray) : Nat → (List ByteArray) → Int → Option (((List ByteArray) × Bool) ⊕ ((List ByteArray)))
  | 0, _, _ => none
  | k + 1, o1_0, o1_1 => (if o1_1 < (x0.size : Int) then (((byI x0 o1_1).bind fun y4 => (if y4 = 32 then (F40_l1 x0 k o1_0 ((IntKind.i64.wrap (o1_1 + 1)))).map Sum.inl else (F51 y4).bind fun t6 => (if t6 = true then ((F40_l8 o1_1 x0 1099511627776 1).bind fun o8 => some (Sum.inr o8)) else (((if y4 = 33 then (if (IntKind.i64.wrap (o1_1 + 1)) < (x0.size : Int) then (byI x0 ((IntKind.i64.wrap (o1_1 + 1)))).bind fun y17 => some (decide (y17 = 61)) else some false) else some false)).bind fun o14 => (if o14 = true then some (Sum.inr 2) else (contI ((⟨#[40, 41, 44, 33, 61]⟩ : ByteArray)) ((Utf8.encode ((IntKind.i32.wrap y4))))).bind fun t19 => (if (nb t19) = true then ((some (([], false))).map Sum.inl).map Sum.inl else some (Sum.inr 1)))))) : Option ((((List ByteArray) × Bool) ⊕ ((List ByteArray))) ⊕ (Int))).bind fun o3 => match o3 with | Sum.inl f => some f | Sum.inr po3 => (subI x0 o1_1 ((IntKind.i64.wrap (o1_1 + po3)))).bind fun s21 => (apI o1_0 ([s21])).bind fun a22 => F40_l1 x0 k a22 ((IntKind.i64.wrap (o1_1 + po3)))) else some (Sum.inr o1_0))
def F40 (x0 : ByteArray) : Option ((List ByteArray) × Bool) := ((F40_l1 x0 1099511627776 ([]) 0 : Option (((List ByteArray) × Bool) ⊕ ((List ByteArray)))).bind fun o1 => match o1 with | Sum.inl f => some f | Sum.inr po1 => some ((po1, true)))
def a40 : AFn := ⟨75, [(.tmp 2), (.tmp 3)],
 (.seq (.reg [⟨(some 2), none, .mv kN, [], (.new [])⟩,
   ⟨(some 3), none, .mv (kB false), [], (.new [])⟩])
 (.seq (.reg [⟨(some 4), none, .mv kN, [], (.new [])⟩])
 (.seq (.seq (.reg [⟨(some 5), none, .mv (kI 0), [], (.new [])⟩])
 (.sem (.block 0 (.loop (.seq (.seq (.reg [⟨(some 8), none, .mv (.t 5), [], (.new [])⟩,
   ⟨(some 9), none, .mv (.t 0), [], (.new [])⟩,
   ⟨(some 10), none, .slen (.t 9), [], (.new [])⟩,
   ⟨(some 11), none, .bin .lss (.t 8) (.t 10), [], (.new [])⟩])
 (.cond (.t 11)
 .skip
 (.exit 0)))
 (.block 1 (.seq (.reg [⟨(some 6), none, .mv (kI 1), [], (.new [])⟩])
 (.seq (.sem (.seq (.reg [⟨(some 12), none, .mv (.t 0), [], (.new [])⟩,
   ⟨(some 13), none, .mv (.t 5), [], (.new [])⟩,
   ⟨(some 14), none, .sidx (.t 12) (.t 13), [], (.new [])⟩,
   ⟨(some 7), none, .mv (.t 14), [], (.new [])⟩])
 (.block 2 (.seq (.reg [⟨(some 16), none, .mv (.t 7), [], (.new [])⟩,
   ⟨(some 17), none, .bin .eql (.t 16) (.k (.c (.d (.v (.int .u8 32))))), [], (.new [])⟩,
   ⟨(some 15), none, .mv (.t 17), [], (.new [])⟩])
 (.cond (.t 15)
 (.seq (.reg [⟨(some 18), none, .mv (.t 5), [], (.new [])⟩,
   ⟨(some 19), none, .bin .add (.t 18) (kI 1), [], (.new [])⟩,
   ⟨(some 5), none, .mv (.t 19), [], (.new [])⟩])
 (.exit 1))
 (.seq (.reg [⟨(some 21), none, .mv (.t 7), [], (.new [])⟩,
   ⟨(some 22), none, .call 51 [(.t 21)], [], (.new [])⟩,
   ⟨(some 20), none, .mv (.t 22), [], (.new [])⟩])
 (.cond (.t 20)
 (.sem (.block 3 (.loop (.seq (.seq (.sem (.reg [⟨(some 23), none, .mv (.t 5), [], (.new [])⟩,
   ⟨(some 24), none, .mv (.t 6), [], (.new [])⟩,
   ⟨(some 25), none, .bin .add (.t 23) (.t 24), [], (.new [])⟩,
   ⟨(some 26), none, .mv (.t 0), [], (.new [])⟩,
   ⟨(some 27), none, .slen (.t 26), [], (.new [])⟩,
   ⟨(some 28), none, .bin .lss (.t 25) (.t 27), [], (.new [])⟩,
   ⟨(some 29), none, .mv (.t 28), [], (.new [])⟩,
   ⟨(some 30), (some (29, true)), .mv (.t 0), [], (.new [])⟩,
   ⟨(some 31), (some (29, true)), .mv (.t 5), [], (.new [])⟩,
   ⟨(some 32), (some (29, true)), .mv (.t 6), [], (.new [])⟩,
   ⟨(some 33), (some (29, true)), .bin .add (.t 31) (.t 32), [], (.new [])⟩,
   ⟨(some 34), (some (29, true)), .sidx (.t 30) (.t 33), [], (.new [])⟩,
   ⟨(some 35), (some (29, true)), .call 51 [(.t 34)], [], (.new [])⟩,
   ⟨(some 36), none, .pick (.t 29) (.t 35) (kB false), [], (.new [])⟩]))
 (.cond (.t 36)
 .skip
 (.exit 3)))
 (.block 4 (.reg [⟨(some 37), none, .mv (.t 6), [], (.new [])⟩,
   ⟨(some 38), none, .bin .add (.t 37) (kI 1), [], (.new [])⟩,
   ⟨(some 6), none, .mv (.t 38), [], (.new [])⟩]))))))
 (.seq (.sem (.reg [⟨(some 40), none, .mv (.t 7), [], (.new [])⟩,
   ⟨(some 41), none, .bin .eql (.t 40) (.k (.c (.d (.v (.int .u8 33))))), [], (.new [])⟩,
   ⟨(some 42), none, .mv (.t 41), [], (.new [])⟩,
   ⟨(some 43), (some (42, true)), .mv (.t 5), [], (.new [])⟩,
   ⟨(some 44), (some (42, true)), .bin .add (.t 43) (kI 1), [], (.new [])⟩,
   ⟨(some 45), (some (42, true)), .mv (.t 0), [], (.new [])⟩,
   ⟨(some 46), (some (42, true)), .slen (.t 45), [], (.new [])⟩,
   ⟨(some 47), (some (42, true)), .bin .lss (.t 44) (.t 46), [], (.new [])⟩,
   ⟨(some 48), none, .pick (.t 42) (.t 47) (kB false), [], (.new [])⟩,
   ⟨(some 49), none, .mv (.t 48), [], (.new [])⟩,
   ⟨(some 50), (some (49, true)), .mv (.t 0), [], (.new [])⟩,
   ⟨(some 51), (some (49, true)), .mv (.t 5), [], (.new [])⟩,
   ⟨(some 52), (some (49, true)), .bin .add (.t 51) (kI 1), [], (.new [])⟩,
   ⟨(some 53), (some (49, true)), .sidx (.t 50) (.t 52), [], (.new [])⟩,
   ⟨(some 54), (some (49, true)), .bin .eql (.t 53) (.k (.c (.d (.v (.int .u8 61))))), [], (.new [])⟩,
   ⟨(some 55), none, .pick (.t 49) (.t 54) (kB false), [], (.new [])⟩,
   ⟨(some 39), none, .mv (.t 55), [], (.new [])⟩]))
 (.cond (.t 39)
 (.reg [⟨(some 6), none, .mv (kI 2), [], (.new [])⟩])
 (.seq (.reg [⟨(some 57), none, .mv (.t 7), [], (.new [])⟩,
   ⟨(some 58), none, .conv .i32 (.t 57), [], (.new [])⟩,
   ⟨(some 59), none, .istr (.t 58), [], (.new [])⟩,
   ⟨(some 60), none, .call 59 [(kS ⟨#[40, 41, 44, 33, 61]⟩), (.t 59)], [], (.new [])⟩,
   ⟨(some 61), none, .not (.t 60), [], (.new [])⟩,
   ⟨(some 56), none, .mv (.t 61), [], (.new [])⟩])
 (.cond (.t 56)
 (.seq (.reg [⟨(some 2), none, .mv kN, [], (.new [])⟩,
   ⟨(some 3), none, .mv (kB false), [], (.new [])⟩])
 .ret)
 .skip)))))))))))
 (.seq (.reg [⟨(some 62), none, .mv (.t 4), [], (.new [])⟩,
   ⟨(some 63), none, .mv (.t 0), [], (.new [])⟩,
   ⟨(some 64), none, .mv (.t 5), [], (.new [])⟩,
   ⟨(some 65), none, .mv (.t 5), [], (.new [])⟩,
   ⟨(some 66), none, .mv (.t 6), [], (.new [])⟩,
   ⟨(some 67), none, .bin .add (.t 65) (.t 66), [], (.new [])⟩,
   ⟨(some 68), none, .sslice (.t 63) (some (.t 64)) (some (.t 67)), [], (.new [])⟩,
   ⟨(some 69), none, .bslice 1 [(.t 68)], [], (.new [])⟩,
   ⟨(some 70), none, .app 1 16 (.t 62) (.t 69), [], (.new [])⟩,
   ⟨(some 4), none, .mv (.t 70), [], (.new [])⟩])
 (.reg [⟨(some 71), none, .mv (.t 5), [], (.new [])⟩,
   ⟨(some 72), none, .mv (.t 6), [], (.new [])⟩,
   ⟨(some 73), none, .bin .add (.t 71) (.t 72), [], (.new [])⟩,
   ⟨(some 5), none, .mv (.t 73), [], (.new [])⟩]))))))))))
 (.seq (.reg [⟨(some 74), none, .mv (.t 4), [], (.new [])⟩,
   ⟨(some 2), none, .mv (.t 74), [], (.new [])⟩,
   ⟨(some 3), none, .mv (kB true), [], (.new [])⟩])
 .ret))))⟩
theorem a40_ok : afn Try.prog 40 = some a40.er := by kernel_rfl
theorem F40_ok {x0 : ByteArray} {r : (List ByteArray) × Bool} (h : F40 x0 = some r) : CallD Try.prog 40 [.c (.d (.v (.string x0)))] [] (tupV [.c (.own 0 0 0 (r.1.length) none), .c (.d (.v (.bool r.2)))]) [some (.arr 0 1 (r.1.map eS))] := by
  refine callS a40_ok (by simp [a40]) ?_
  rw [F40] at h
  simp only [a40, VW.down, Nat.reduceEqDiff, reduceCtorEq, Nat.reduceAdd, Nat.reduceLeDiff, Nat.reduceLT, Nat.reduceBEq, Nat.reduceSub, EE.down]
  obtain ⟨o1, ho, h⟩ := Option.bind_eq_some_iff.1 h
  refine cutS (fun s => ∃ po1, o1 = Sum.inr po1 ∧ s = ⟨[(4, .one (.c (.own 0 0 0 (po1.length) none)))], [some (.arr 0 1 (po1.map eS))]⟩) ?_ ?_
  · have h0o1 := h
    have h := ho
    clear ho
    simp only [VW.down, Nat.reduceEqDiff, reduceCtorEq, Nat.reduceAdd, Nat.reduceLeDiff, Nat.reduceLT, Nat.reduceBEq, Nat.reduceSub, EE.down]
    refine bL (fun j s => ∃ (o1_0 : List ByteArray) (o1_1 : Int), s = ⟨[(0, .one (.c (.d (.v (.string x0))))), (4, .one (.c (.own 0 0 0 (o1_0.length) none))), (5, .one (.c (.d (.v (.int .i64 o1_1)))))], [some (.arr 0 1 (o1_0.map eS))]⟩ ∧ F40_l1 x0 j o1_0 o1_1 = some o1) 1099511627776 [none] ⟨[], 0, rfl, h⟩ ?_
    rintro j _ ⟨o1_0, o1_1, rfl, h⟩
    cases j with
    | zero => cases (show (none : Option _) = some _ from h)
    | succ j =>
      rw [F40_l1] at h
      simp only [VW.down, Nat.reduceEqDiff, reduceCtorEq, Nat.reduceAdd, Nat.reduceLeDiff, Nat.reduceLT, Nat.reduceBEq, Nat.reduceSub, EE.down]
      refine condS (fun c2 => ?_) (fun c2 => ?_)
      · have h := (if_pos c2).symm.trans h
        simp only [VW.down, Nat.reduceEqDiff, reduceCtorEq, Nat.reduceAdd, Nat.reduceLeDiff, Nat.reduceLT, Nat.reduceBEq, Nat.reduceSub, EE.down]
        obtain ⟨o3, ho, h⟩ := Option.bind_eq_some_iff.1 h
        refine cutS (fun s => ∃ po3, o3 = Sum.inr po3 ∧ s = ⟨[(0, .one (.c (.d (.v (.string x0))))), (4, .one (.c (.own 0 0 0 (o1_0.length) none))), (5, .one (.c (.d (.v (.int .i64 o1_1))))), (6, .one (.c (.d (.v (.int .i64 po3)))))], [some (.arr 0 1 (o1_0.map eS))]⟩) ?_ ?_
        · have h0o3 := h
          have h := ho
          clear ho
          simp only [VW.down, Nat.reduceEqDiff, reduceCtorEq, Nat.reduceAdd, Nat.reduceLeDiff, Nat.reduceLT, Nat.reduceBEq, Nat.reduceSub, EE.down]
          obtain ⟨y4, hy4, h⟩ := Option.bind_eq_some_iff.1 h
          refine t_sidx rfl rfl hy4 ?_
          simp only [VW.down, Nat.reduceEqDiff, reduceCtorEq, Nat.reduceAdd, Nat.reduceLeDiff, Nat.reduceLT, Nat.reduceBEq, Nat.reduceSub, EE.down]
          refine condS (fun c5 => ?_) (fun c5 => ?_)
          · have h := (if_pos c5).symm.trans h
            simp only [VW.down, Nat.reduceEqDiff, reduceCtorEq, Nat.reduceAdd, Nat.reduceLeDiff, Nat.reduceLT, Nat.reduceBEq, Nat.reduceSub, EE.down]
            obtain ⟨fh0o3, hfh0o3, rfl⟩ := Option.map_eq_some_iff.1 h
            have h := hfh0o3.trans h0o3
            exact eL' j [some 0] ⟨o1_0, (IntKind.i64.wrap (o1_1 + 1)), rfl, h⟩ (Nat.lt_succ_self _)
          · have h := (if_neg c5).symm.trans h
            simp only [VW.down, Nat.reduceEqDiff, reduceCtorEq, Nat.reduceAdd, Nat.reduceLeDiff, Nat.reduceLT, Nat.reduceBEq, Nat.reduceSub, EE.down]
            obtain ⟨t6, ht6, h⟩ := Option.bind_eq_some_iff.1 h
            refine callX_n [] (F51_ok ht6) ?_ ?_ ?_ ?_ ?_ ?_
            · first | rfl | simp [nrmA, nrmC, nrm, A1.ren, C.ren, rn, List.length_set]
            · simp [liveAll, A1.live, C.live]
            · rfl
            · decide
            · exact trivial
            simp only [VW.down, Nat.reduceEqDiff, reduceCtorEq, Nat.reduceAdd, Nat.reduceLeDiff, Nat.reduceLT, Nat.reduceBEq, Nat.reduceSub, EE.down]
            refine condB (fun c7 => ?_) (fun c7 => ?_)
            · have h := (if_pos c7).symm.trans h
              simp only [VW.down, Nat.reduceEqDiff, reduceCtorEq, Nat.reduceAdd, Nat.reduceLeDiff, Nat.reduceLT, Nat.reduceBEq, Nat.reduceSub, EE.down]
              obtain ⟨o8, ho, h⟩ := Option.bind_eq_some_iff.1 h
              refine cutS (fun s => s = ⟨[(0, .one (.c (.d (.v (.string x0))))), (4, .one (.c (.own 0 0 0 (o1_0.length) none))), (5, .one (.c (.d (.v (.int .i64 o1_1))))), (6, .one (.c (.d (.v (.int .i64 o8)))))], [some (.arr 0 1 (o1_0.map eS))]⟩) ?_ ?_
              · have h := ho
                clear ho
                simp only [VW.down, Nat.reduceEqDiff, reduceCtorEq, Nat.reduceAdd, Nat.reduceLeDiff, Nat.reduceLT, Nat.reduceBEq, Nat.reduceSub, EE.down]
                refine bL (fun j s => ∃ (o8_0 : Int), s = ⟨[(0, .one (.c (.d (.v (.string x0))))), (4, .one (.c (.own 0 0 0 (o1_0.length) none))), (5, .one (.c (.d (.v (.int .i64 o1_1))))), (6, .one (.c (.d (.v (.int .i64 o8_0)))))], [some (.arr 0 1 (o1_0.map eS))]⟩ ∧ F40_l8 o1_1 x0 j o8_0 = some o8) 1099511627776 [some 0] ⟨1, rfl, h⟩ ?_
                rintro j _ ⟨o8_0, rfl, h⟩
                cases j with
                | zero => cases (show (none : Option _) = some _ from h)
                | succ j =>
                  rw [F40_l8] at h
                  simp only [VW.down, Nat.reduceEqDiff, reduceCtorEq, Nat.reduceAdd, Nat.reduceLeDiff, Nat.reduceLT, Nat.reduceBEq, Nat.reduceSub, EE.down]
                  obtain ⟨o9, ho, h⟩ := Option.bind_eq_some_iff.1 h
                  refine cutS (fun s => s = ⟨[(0, .one (.c (.d (.v (.string x0))))), (4, .one (.c (.own 0 0 0 (o1_0.length) none))), (5, .one (.c (.d (.v (.int .i64 o1_1))))), (6, .one (.c (.d (.v (.int .i64 o8_0))))), (36, .one (.c (.d (.v (.bool o9)))))], [some (.arr 0 1 (o1_0.map eS))]⟩) ?_ ?_
                  · have h := ho
                    clear ho
                    simp only [VW.down, Nat.reduceEqDiff, reduceCtorEq, Nat.reduceAdd, Nat.reduceLeDiff, Nat.reduceLT, Nat.reduceBEq, Nat.reduceSub, EE.down]
                    refine guardS (fun g10 => ?_) (fun g10 => ?_)
                    · have h := (if_pos g10).symm.trans h
                      simp only [VW.down, Nat.reduceEqDiff, reduceCtorEq, Nat.reduceAdd, Nat.reduceLeDiff, Nat.reduceLT, Nat.reduceBEq, Nat.reduceSub, EE.down]
                      obtain ⟨y11, hy11, h⟩ := Option.bind_eq_some_iff.1 h
                      refine t_sidx rfl rfl hy11 ?_
                      simp only [VW.down, Nat.reduceEqDiff, reduceCtorEq, Nat.reduceAdd, Nat.reduceLeDiff, Nat.reduceLT, Nat.reduceBEq, Nat.reduceSub, EE.down]
                      obtain ⟨t12, ht12, h⟩ := Option.bind_eq_some_iff.1 h
                      refine callX_n [] (F51_ok ht12) ?_ ?_ ?_ ?_ ?_ ?_
                      · first | rfl | simp [nrmA, nrmC, nrm, A1.ren, C.ren, rn, List.length_set]
                      · simp [liveAll, A1.live, C.live]
                      · rfl
                      · decide
                      · exact trivial
                      simp only [VW.down, Nat.reduceEqDiff, reduceCtorEq, Nat.reduceAdd, Nat.reduceLeDiff, Nat.reduceLT, Nat.reduceBEq, Nat.reduceSub, EE.down]
                      obtain rfl := Option.some.inj h
                      exact eM [some 0] rfl
                    · have h := (if_neg g10).symm.trans h
                      simp only [VW.down, Nat.reduceEqDiff, reduceCtorEq, Nat.reduceAdd, Nat.reduceLeDiff, Nat.reduceLT, Nat.reduceBEq, Nat.reduceSub, EE.down]
                      obtain rfl := Option.some.inj h
                      exact eM [some 0] rfl
                  · rintro _ rfl
                    clear ho
                    simp only [VW.down, Nat.reduceEqDiff, reduceCtorEq, Nat.reduceAdd, Nat.reduceLeDiff, Nat.reduceLT, Nat.reduceBEq, Nat.reduceSub, EE.down]
                    refine condB (fun c13 => ?_) (fun c13 => ?_)
                    · have h := (if_pos c13).symm.trans h
                      simp only [VW.down, Nat.reduceEqDiff, reduceCtorEq, Nat.reduceAdd, Nat.reduceLeDiff, Nat.reduceLT, Nat.reduceBEq, Nat.reduceSub, EE.down]
                      exact eL' j [some 0] ⟨(IntKind.i64.wrap (o8_0 + 1)), rfl, h⟩ (Nat.lt_succ_self _)
                    · have h := (if_neg c13).symm.trans h
                      simp only [VW.down, Nat.reduceEqDiff, reduceCtorEq, Nat.reduceAdd, Nat.reduceLeDiff, Nat.reduceLT, Nat.reduceBEq, Nat.reduceSub, EE.down]
                      obtain rfl := Option.some.inj h
                      exact eM [some 0] rfl
              · rintro _ rfl
                clear ho
                simp only [VW.down, Nat.reduceEqDiff, reduceCtorEq, Nat.reduceAdd, Nat.reduceLeDiff, Nat.reduceLT, Nat.reduceBEq, Nat.reduceSub, EE.down]
                obtain rfl := Option.some.inj h
                exact eM [some 0] ⟨_, rfl, rfl⟩
            · have h := (if_neg c7).symm.trans h
              simp only [VW.down, Nat.reduceEqDiff, reduceCtorEq, Nat.reduceAdd, Nat.reduceLeDiff, Nat.reduceLT, Nat.reduceBEq, Nat.reduceSub, EE.down]
              obtain ⟨o14, ho, h⟩ := Option.bind_eq_some_iff.1 h
              refine cutS (fun s => s = ⟨[(0, .one (.c (.d (.v (.string x0))))), (4, .one (.c (.own 0 0 0 (o1_0.length) none))), (5, .one (.c (.d (.v (.int .i64 o1_1))))), (6, .one (.c (.d (.v (.int .i64 1))))), (7, .one (.c (.d (.v (.int .u8 y4))))), (39, .one (.c (.d (.v (.bool o14)))))], [some (.arr 0 1 (o1_0.map eS))]⟩) ?_ ?_
              · have h := ho
                clear ho
                simp only [VW.down, Nat.reduceEqDiff, reduceCtorEq, Nat.reduceAdd, Nat.reduceLeDiff, Nat.reduceLT, Nat.reduceBEq, Nat.reduceSub, EE.down]
                refine guardS (fun g15 => ?_) (fun g15 => ?_)
                · have h := (if_pos g15).symm.trans h
                  simp only [VW.down, Nat.reduceEqDiff, reduceCtorEq, Nat.reduceAdd, Nat.reduceLeDiff, Nat.reduceLT, Nat.reduceBEq, Nat.reduceSub, EE.down]
                  refine guardS (fun g16 => ?_) (fun g16 => ?_)
                  · have h := (if_pos g16).symm.trans h
                    simp only [VW.down, Nat.reduceEqDiff, reduceCtorEq, Nat.reduceAdd, Nat.reduceLeDiff, Nat.reduceLT, Nat.reduceBEq, Nat.reduceSub, EE.down]
                    obtain ⟨y17, hy17, h⟩ := Option.bind_eq_some_iff.1 h
                    refine t_sidx rfl rfl hy17 ?_
                    simp only [VW.down, Nat.reduceEqDiff, reduceCtorEq, Nat.reduceAdd, Nat.reduceLeDiff, Nat.reduceLT, Nat.reduceBEq, Nat.reduceSub, EE.down]
                    obtain rfl := Option.some.inj h
                    exact eM [some 0] rfl
                  · have h := (if_neg g16).symm.trans h
                    simp only [VW.down, Nat.reduceEqDiff, reduceCtorEq, Nat.reduceAdd, Nat.reduceLeDiff, Nat.reduceLT, Nat.reduceBEq, Nat.reduceSub, EE.down]
                    obtain rfl := Option.some.inj h
                    exact eM [some 0] rfl
                · have h := (if_neg g15).symm.trans h
                  simp only [VW.down, Nat.reduceEqDiff, reduceCtorEq, Nat.reduceAdd, Nat.reduceLeDiff, Nat.reduceLT, Nat.reduceBEq, Nat.reduceSub, EE.down]
                  obtain rfl := Option.some.inj h
                  exact eM [some 0] rfl
              · rintro _ rfl
                clear ho
                simp only [VW.down, Nat.reduceEqDiff, reduceCtorEq, Nat.reduceAdd, Nat.reduceLeDiff, Nat.reduceLT, Nat.reduceBEq, Nat.reduceSub, EE.down]
                refine condB (fun c18 => ?_) (fun c18 => ?_)
                · have h := (if_pos c18).symm.trans h
                  simp only [VW.down, Nat.reduceEqDiff, reduceCtorEq, Nat.reduceAdd, Nat.reduceLeDiff, Nat.reduceLT, Nat.reduceBEq, Nat.reduceSub, EE.down]
                  obtain rfl := Option.some.inj h
                  exact eM [some 0] ⟨_, rfl, rfl⟩
                · have h := (if_neg c18).symm.trans h
                  simp only [VW.down, Nat.reduceEqDiff, reduceCtorEq, Nat.reduceAdd, Nat.reduceLeDiff, Nat.reduceLT, Nat.reduceBEq, Nat.reduceSub, EE.down]
                  obtain ⟨t19, ht19, h⟩ := Option.bind_eq_some_iff.1 h
                  refine callX_n [] (F59_ok ht19) ?_ ?_ ?_ ?_ ?_ ?_
                  · first | rfl | simp [nrmA, nrmC, nrm, A1.ren, C.ren, rn, List.length_set]
                  · simp [liveAll, A1.live, C.live]
                  · rfl
                  · decide
                  · exact trivial
                  simp only [VW.down, Nat.reduceEqDiff, reduceCtorEq, Nat.reduceAdd, Nat.reduceLeDiff, Nat.reduceLT, Nat.reduceBEq, Nat.reduceSub, EE.down]
                  refine condB (fun c20 => ?_) (fun c20 => ?_)
                  · have h := (if_pos c20).symm.trans h
                    simp only [VW.down, Nat.reduceEqDiff, reduceCtorEq, Nat.reduceAdd, Nat.reduceLeDiff, Nat.reduceLT, Nat.reduceBEq, Nat.reduceSub, EE.down]
                    obtain ⟨fh0o3, hfh0o3, rfl⟩ := Option.map_eq_some_iff.1 h
                    have h := hfh0o3.trans h0o3
                    obtain ⟨fh0o1, hfh0o1, rfl⟩ := Option.map_eq_some_iff.1 h
                    have h := hfh0o1.trans h0o1
                    obtain rfl := Option.some.inj h
                    exact eF [none]
                  · have h := (if_neg c20).symm.trans h
                    simp only [VW.down, Nat.reduceEqDiff, reduceCtorEq, Nat.reduceAdd, Nat.reduceLeDiff, Nat.reduceLT, Nat.reduceBEq, Nat.reduceSub, EE.down]
                    obtain rfl := Option.some.inj h
                    exact eM [some 0] ⟨_, rfl, rfl⟩
        · rintro _ ⟨po3, rfl, rfl⟩
          clear ho
          dsimp only at h
          simp only [VW.down, Nat.reduceEqDiff, reduceCtorEq, Nat.reduceAdd, Nat.reduceLeDiff, Nat.reduceLT, Nat.reduceBEq, Nat.reduceSub, EE.down]
          obtain ⟨s21, hs21, h⟩ := Option.bind_eq_some_iff.1 h
          refine t_sslice rfl rfl rfl hs21 ?_
          simp only [VW.down, Nat.reduceEqDiff, reduceCtorEq, Nat.reduceAdd, Nat.reduceLeDiff, Nat.reduceLT, Nat.reduceBEq, Nat.reduceSub, EE.down]
          refine t_bslice (enc := eS) (ys := [s21]) rfl rfl (by simp [A1.cells]) (by first | rfl | (simp only [List.drop_zero, take_mapL]; rfl)) ?_
          simp only [VW.down, Nat.reduceEqDiff, reduceCtorEq, Nat.reduceAdd, Nat.reduceLeDiff, Nat.reduceLT, Nat.reduceBEq, Nat.reduceSub, EE.down]
          obtain ⟨a22, ha22, h⟩ := Option.bind_eq_some_iff.1 h
          refine t_app (enc := eS) (xs := o1_0) rfl rfl (by first | rfl | simp only [List.length_set] | exact (clrL_len (slI_len (by assumption))).symm) rfl (rows_full (enc := eS) (by first | rfl | simp only [List.length_set] | exact (clrL_len (slI_len (by assumption))).symm) rfl) ha22 ?_
          simp only [VW.down, Nat.reduceEqDiff, reduceCtorEq, Nat.reduceAdd, Nat.reduceLeDiff, Nat.reduceLT, Nat.reduceBEq, Nat.reduceSub, EE.down]
          exact eL' j [some 0] ⟨a22, (IntKind.i64.wrap (o1_1 + po3)), rfl, h⟩ (Nat.lt_succ_self _)
      · have h := (if_neg c2).symm.trans h
        simp only [VW.down, Nat.reduceEqDiff, reduceCtorEq, Nat.reduceAdd, Nat.reduceLeDiff, Nat.reduceLT, Nat.reduceBEq, Nat.reduceSub, EE.down]
        obtain rfl := Option.some.inj h
        exact eM [some 0] ⟨_, rfl, rfl⟩
  · rintro _ ⟨po1, rfl, rfl⟩
    clear ho
    dsimp only at h
    simp only [VW.down, Nat.reduceEqDiff, reduceCtorEq, Nat.reduceAdd, Nat.reduceLeDiff, Nat.reduceLT, Nat.reduceBEq, Nat.reduceSub, EE.down]
    obtain rfl := Option.some.inj h
    exact eF [some 0]

/- orchestrator/label.validKey -/
def F29_l8 (x0 : ByteArray) : Nat → Int → Option ((Bool) ⊕ (Unit))
  | 0, _ => none
  | k + 1, o8_0 => (if o8_0 < (x0.size : Int) then (byI x0 o8_0).bind fun y10 => (F51 y10).bind fun t11 => (if (nb t11) = true then (some false).map Sum.inl else F29_l8 x0 k ((IntKind.i64.wrap (o8_0 + 1)))) else some (Sum.inr (())))
def F29 (x0 : ByteArray) : Option (Bool) := (((if x0 = (⟨#[]⟩ : ByteArray) then some true else (if 40 < (x0.size : Int) then some true else (byI x0 0).bind fun y4 => (if y4 < 97 then some true else (byI x0 0).bind fun y6 => some (decide (122 < y6)))))).bind fun o1 => (if o1 = true then some false else ((F29_l8 x0 1099511627776 0 : Option ((Bool) ⊕ (Unit))).bind fun o8 => match o8 with | Sum.inl f => some f | Sum.inr po8 => some true)))
def a29 : AFn := ⟨32, [(.tmp 2)],
 (.seq (.reg [⟨(some 2), none, .mv (kB false), [], (.new [])⟩])
 (.seq (.seq (.sem (.reg [⟨(some 4), none, .mv (.t 0), [], (.new [])⟩,
   ⟨(some 5), none, .bin .eql (.t 4) (kS ⟨#[]⟩), [], (.new [])⟩,
   ⟨(some 6), none, .mv (.t 5), [], (.new [])⟩,
   ⟨(some 7), (some (6, false)), .mv (.t 0), [], (.new [])⟩,
   ⟨(some 8), (some (6, false)), .slen (.t 7), [], (.new [])⟩,
   ⟨(some 9), (some (6, false)), .bin .gtr (.t 8) (kI 40), [], (.new [])⟩,
   ⟨(some 10), none, .pick (.t 6) (kB true) (.t 9), [], (.new [])⟩,
   ⟨(some 11), none, .mv (.t 10), [], (.new [])⟩,
   ⟨(some 12), (some (11, false)), .mv (.t 0), [], (.new [])⟩,
   ⟨(some 13), (some (11, false)), .sidx (.t 12) (kI 0), [], (.new [])⟩,
   ⟨(some 14), (some (11, false)), .bin .lss (.t 13) (.k (.c (.d (.v (.int .u8 97))))), [], (.new [])⟩,
   ⟨(some 15), none, .pick (.t 11) (kB true) (.t 14), [], (.new [])⟩,
   ⟨(some 16), none, .mv (.t 15), [], (.new [])⟩,
   ⟨(some 17), (some (16, false)), .mv (.t 0), [], (.new [])⟩,
   ⟨(some 18), (some (16, false)), .sidx (.t 17) (kI 0), [], (.new [])⟩,
   ⟨(some 19), (some (16, false)), .bin .gtr (.t 18) (.k (.c (.d (.v (.int .u8 122))))), [], (.new [])⟩,
   ⟨(some 20), none, .pick (.t 16) (kB true) (.t 19), [], (.new [])⟩]))
 (.cond (.t 20)
 (.seq (.reg [⟨(some 2), none, .mv (kB false), [], (.new [])⟩])
 .ret)
 .skip))
 (.seq (.seq (.reg [⟨(some 21), none, .mv (.t 0), [], (.new [])⟩,
   ⟨(some 22), none, .slen (.t 21), [], (.new [])⟩,
   ⟨(some 23), none, .mv (kI 0), [], (.new [])⟩])
 (.sem (.block 0 (.loop (.seq (.reg [⟨(some 24), none, .bin .lss (.t 23) (.t 22), [], (.new [])⟩])
 (.seq (.cond (.t 24)
 .skip
 (.exit 0))
 (.seq (.block 1 (.seq (.reg [⟨(some 25), none, .mv (.t 23), [], (.new [])⟩,
   ⟨(some 3), none, .mv (.t 25), [], (.new [])⟩])
 (.seq (.reg [⟨(some 26), none, .mv (.t 0), [], (.new [])⟩,
   ⟨(some 27), none, .mv (.t 3), [], (.new [])⟩,
   ⟨(some 28), none, .sidx (.t 26) (.t 27), [], (.new [])⟩,
   ⟨(some 29), none, .call 51 [(.t 28)], [], (.new [])⟩,
   ⟨(some 30), none, .not (.t 29), [], (.new [])⟩])
 (.cond (.t 30)
 (.seq (.reg [⟨(some 2), none, .mv (kB false), [], (.new [])⟩])
 .ret)
 .skip))))
 (.reg [⟨(some 31), none, .bin .add (.t 23) (kI 1), [], (.new [])⟩,
   ⟨(some 23), none, .mv (.t 31), [], (.new [])⟩]))))))))
 (.seq (.reg [⟨(some 2), none, .mv (kB true), [], (.new [])⟩])
 .ret))))⟩
theorem a29_ok : afn Try.prog 29 = some a29.er := by kernel_rfl
theorem F29_ok {x0 : ByteArray} {r : Bool} (h : F29 x0 = some r) : CallD Try.prog 29 [.c (.d (.v (.string x0)))] [] (tupV [.c (.d (.v (.bool r)))]) [] := by
  refine callS a29_ok (by simp [a29]) ?_
  rw [F29] at h
  simp only [a29, VW.down, Nat.reduceEqDiff, reduceCtorEq, Nat.reduceAdd, Nat.reduceLeDiff, Nat.reduceLT, Nat.reduceBEq, Nat.reduceSub, EE.down]
  obtain ⟨o1, ho, h⟩ := Option.bind_eq_some_iff.1 h
  refine cutS (fun s => s = ⟨[(0, .one (.c (.d (.v (.string x0))))), (20, .one (.c (.d (.v (.bool o1)))))], []⟩) ?_ ?_
  · have h := ho
    clear ho
    simp only [VW.down, Nat.reduceEqDiff, reduceCtorEq, Nat.reduceAdd, Nat.reduceLeDiff, Nat.reduceLT, Nat.reduceBEq, Nat.reduceSub, EE.down]
    refine guardS (fun g2 => ?_) (fun g2 => ?_)
    · have h := (if_pos g2).symm.trans h
      simp only [VW.down, Nat.reduceEqDiff, reduceCtorEq, Nat.reduceAdd, Nat.reduceLeDiff, Nat.reduceLT, Nat.reduceBEq, Nat.reduceSub, EE.down]
      obtain rfl := Option.some.inj h
      exact eM [] rfl
    · have h := (if_neg g2).symm.trans h
      simp only [VW.down, Nat.reduceEqDiff, reduceCtorEq, Nat.reduceAdd, Nat.reduceLeDiff, Nat.reduceLT, Nat.reduceBEq, Nat.reduceSub, EE.down]
      refine guardS (fun g3 => ?_) (fun g3 => ?_)
      · have h := (if_pos g3).symm.trans h
        simp only [VW.down, Nat.reduceEqDiff, reduceCtorEq, Nat.reduceAdd, Nat.reduceLeDiff, Nat.reduceLT, Nat.reduceBEq, Nat.reduceSub, EE.down]
        obtain rfl := Option.some.inj h
        exact eM [] rfl
      · have h := (if_neg g3).symm.trans h
        simp only [VW.down, Nat.reduceEqDiff, reduceCtorEq, Nat.reduceAdd, Nat.reduceLeDiff, Nat.reduceLT, Nat.reduceBEq, Nat.reduceSub, EE.down]
        obtain ⟨y4, hy4, h⟩ := Option.bind_eq_some_iff.1 h
        refine t_sidx rfl rfl hy4 ?_
        simp only [VW.down, Nat.reduceEqDiff, reduceCtorEq, Nat.reduceAdd, Nat.reduceLeDiff, Nat.reduceLT, Nat.reduceBEq, Nat.reduceSub, EE.down]
        refine guardS (fun g5 => ?_) (fun g5 => ?_)
        · have h := (if_pos g5).symm.trans h
          simp only [VW.down, Nat.reduceEqDiff, reduceCtorEq, Nat.reduceAdd, Nat.reduceLeDiff, Nat.reduceLT, Nat.reduceBEq, Nat.reduceSub, EE.down]
          obtain rfl := Option.some.inj h
          exact eM [] rfl
        · have h := (if_neg g5).symm.trans h
          simp only [VW.down, Nat.reduceEqDiff, reduceCtorEq, Nat.reduceAdd, Nat.reduceLeDiff, Nat.reduceLT, Nat.reduceBEq, Nat.reduceSub, EE.down]
          obtain ⟨y6, hy6, h⟩ := Option.bind_eq_some_iff.1 h
          refine t_sidx rfl rfl hy6 ?_
          simp only [VW.down, Nat.reduceEqDiff, reduceCtorEq, Nat.reduceAdd, Nat.reduceLeDiff, Nat.reduceLT, Nat.reduceBEq, Nat.reduceSub, EE.down]
          obtain rfl := Option.some.inj h
          exact eM [] rfl
  · rintro _ rfl
    clear ho
    simp only [VW.down, Nat.reduceEqDiff, reduceCtorEq, Nat.reduceAdd, Nat.reduceLeDiff, Nat.reduceLT, Nat.reduceBEq, Nat.reduceSub, EE.down]
    refine condB (fun c7 => ?_) (fun c7 => ?_)
    · have h := (if_pos c7).symm.trans h
      simp only [VW.down, Nat.reduceEqDiff, reduceCtorEq, Nat.reduceAdd, Nat.reduceLeDiff, Nat.reduceLT, Nat.reduceBEq, Nat.reduceSub, EE.down]
      obtain rfl := Option.some.inj h
      exact eF []
    · have h := (if_neg c7).symm.trans h
      simp only [VW.down, Nat.reduceEqDiff, reduceCtorEq, Nat.reduceAdd, Nat.reduceLeDiff, Nat.reduceLT, Nat.reduceBEq, Nat.reduceSub, EE.down]
      obtain ⟨o8, ho, h⟩ := Option.bind_eq_some_iff.1 h
      refine cutS (fun s => ∃ po8, o8 = Sum.inr po8 ∧ s = ⟨[], []⟩) ?_ ?_
      · have h0o8 := h
        have h := ho
        clear ho
        simp only [VW.down, Nat.reduceEqDiff, reduceCtorEq, Nat.reduceAdd, Nat.reduceLeDiff, Nat.reduceLT, Nat.reduceBEq, Nat.reduceSub, EE.down]
        refine bL (fun j s => ∃ (o8_0 : Int), s = ⟨[(0, .one (.c (.d (.v (.string x0))))), (22, .one (.c (.d (.v (.int .i64 ((x0.size : Int))))))), (23, .one (.c (.d (.v (.int .i64 o8_0)))))], []⟩ ∧ F29_l8 x0 j o8_0 = some o8) 1099511627776 [] ⟨0, rfl, h⟩ ?_
        rintro j _ ⟨o8_0, rfl, h⟩
        cases j with
        | zero => cases (show (none : Option _) = some _ from h)
        | succ j =>
          rw [F29_l8] at h
          simp only [VW.down, Nat.reduceEqDiff, reduceCtorEq, Nat.reduceAdd, Nat.reduceLeDiff, Nat.reduceLT, Nat.reduceBEq, Nat.reduceSub, EE.down]
          refine condS (fun c9 => ?_) (fun c9 => ?_)
          · have h := (if_pos c9).symm.trans h
            simp only [VW.down, Nat.reduceEqDiff, reduceCtorEq, Nat.reduceAdd, Nat.reduceLeDiff, Nat.reduceLT, Nat.reduceBEq, Nat.reduceSub, EE.down]
            obtain ⟨y10, hy10, h⟩ := Option.bind_eq_some_iff.1 h
            refine t_sidx rfl rfl hy10 ?_
            simp only [VW.down, Nat.reduceEqDiff, reduceCtorEq, Nat.reduceAdd, Nat.reduceLeDiff, Nat.reduceLT, Nat.reduceBEq, Nat.reduceSub, EE.down]
            obtain ⟨t11, ht11, h⟩ := Option.bind_eq_some_iff.1 h
            refine callX_n [] (F51_ok ht11) ?_ ?_ ?_ ?_ ?_ ?_
            · first | rfl | simp [nrmA, nrmC, nrm, A1.ren, C.ren, rn, List.length_set]
            · simp [liveAll, A1.live, C.live]
            · rfl
            · decide
            · exact trivial
            simp only [VW.down, Nat.reduceEqDiff, reduceCtorEq, Nat.reduceAdd, Nat.reduceLeDiff, Nat.reduceLT, Nat.reduceBEq, Nat.reduceSub, EE.down]
            refine condB (fun c12 => ?_) (fun c12 => ?_)
            · have h := (if_pos c12).symm.trans h
              simp only [VW.down, Nat.reduceEqDiff, reduceCtorEq, Nat.reduceAdd, Nat.reduceLeDiff, Nat.reduceLT, Nat.reduceBEq, Nat.reduceSub, EE.down]
              obtain ⟨fh0o8, hfh0o8, rfl⟩ := Option.map_eq_some_iff.1 h
              have h := hfh0o8.trans h0o8
              obtain rfl := Option.some.inj h
              exact eF []
            · have h := (if_neg c12).symm.trans h
              simp only [VW.down, Nat.reduceEqDiff, reduceCtorEq, Nat.reduceAdd, Nat.reduceLeDiff, Nat.reduceLT, Nat.reduceBEq, Nat.reduceSub, EE.down]
              exact eL' j [] ⟨(IntKind.i64.wrap (o8_0 + 1)), rfl, h⟩ (Nat.lt_succ_self _)
          · have h := (if_neg c9).symm.trans h
            simp only [VW.down, Nat.reduceEqDiff, reduceCtorEq, Nat.reduceAdd, Nat.reduceLeDiff, Nat.reduceLT, Nat.reduceBEq, Nat.reduceSub, EE.down]
            obtain rfl := Option.some.inj h
            exact eM [] ⟨_, rfl, rfl⟩
      · rintro _ ⟨po8, rfl, rfl⟩
        clear ho
        dsimp only at h
        simp only [VW.down, Nat.reduceEqDiff, reduceCtorEq, Nat.reduceAdd, Nat.reduceLeDiff, Nat.reduceLT, Nat.reduceBEq, Nat.reduceSub, EE.down]
        obtain rfl := Option.some.inj h
        exact eF []

/- orchestrator/label.validValue -/
def F30_l2 (x0 : ByteArray) : Nat → Int → Option ((Bool) ⊕ (Unit))
  | 0, _ => none
  | k + 1, o2_0 => (if o2_0 < (x0.size : Int) then (((byI x0 o2_0).bind fun y5 => (F51 y5).bind fun t6 => (if (nb t6) = true then some true else (byI x0 o2_0).bind fun y8 => some (decide (y8 = 47)))).bind fun o4 => (if o4 = true then (some false).map Sum.inl else F30_l2 x0 k ((IntKind.i64.wrap (o2_0 + 1))))) else some (Sum.inr (())))
def F30 (x0 : ByteArray) : Option (Bool) := (if 40 < (x0.size : Int) then some false else ((F30_l2 x0 1099511627776 0 : Option ((Bool) ⊕ (Unit))).bind fun o2 => match o2 with | Sum.inl f => some f | Sum.inr po2 => some true))
def a30 : AFn := ⟨24, [(.tmp 2)],
 (.seq (.reg [⟨(some 2), none, .mv (kB false), [], (.new [])⟩])
 (.seq (.seq (.reg [⟨(some 4), none, .mv (.t 0), [], (.new [])⟩,
   ⟨(some 5), none, .slen (.t 4), [], (.new [])⟩,
   ⟨(some 6), none, .bin .gtr (.t 5) (kI 40), [], (.new [])⟩])
 (.cond (.t 6)
 (.seq (.reg [⟨(some 2), none, .mv (kB false), [], (.new [])⟩])
 .ret)
 .skip))
 (.seq (.seq (.reg [⟨(some 7), none, .mv (.t 0), [], (.new [])⟩,
   ⟨(some 8), none, .slen (.t 7), [], (.new [])⟩,
   ⟨(some 9), none, .mv (kI 0), [], (.new [])⟩])
 (.sem (.block 0 (.loop (.seq (.reg [⟨(some 10), none, .bin .lss (.t 9) (.t 8), [], (.new [])⟩])
 (.seq (.cond (.t 10)
 .skip
 (.exit 0))
 (.seq (.block 1 (.seq (.reg [⟨(some 11), none, .mv (.t 9), [], (.new [])⟩,
   ⟨(some 3), none, .mv (.t 11), [], (.new [])⟩])
 (.seq (.sem (.reg [⟨(some 12), none, .mv (.t 0), [], (.new [])⟩,
   ⟨(some 13), none, .mv (.t 3), [], (.new [])⟩,
   ⟨(some 14), none, .sidx (.t 12) (.t 13), [], (.new [])⟩,
   ⟨(some 15), none, .call 51 [(.t 14)], [], (.new [])⟩,
   ⟨(some 16), none, .not (.t 15), [], (.new [])⟩,
   ⟨(some 17), none, .mv (.t 16), [], (.new [])⟩,
   ⟨(some 18), (some (17, false)), .mv (.t 0), [], (.new [])⟩,
   ⟨(some 19), (some (17, false)), .mv (.t 3), [], (.new [])⟩,
   ⟨(some 20), (some (17, false)), .sidx (.t 18) (.t 19), [], (.new [])⟩,
   ⟨(some 21), (some (17, false)), .bin .eql (.t 20) (.k (.c (.d (.v (.int .u8 47))))), [], (.new [])⟩,
   ⟨(some 22), none, .pick (.t 17) (kB true) (.t 21), [], (.new [])⟩]))
 (.cond (.t 22)
 (.seq (.reg [⟨(some 2), none, .mv (kB false), [], (.new [])⟩])
 .ret)
 .skip))))
 (.reg [⟨(some 23), none, .bin .add (.t 9) (kI 1), [], (.new [])⟩,
   ⟨(some 9), none, .mv (.t 23), [], (.new [])⟩]))))))))
 (.seq (.reg [⟨(some 2), none, .mv (kB true), [], (.new [])⟩])
 .ret))))⟩
theorem a30_ok : afn Try.prog 30 = some a30.er := by kernel_rfl
theorem F30_ok {x0 : ByteArray} {r : Bool} (h : F30 x0 = some r) : CallD Try.prog 30 [.c (.d (.v (.string x0)))] [] (tupV [.c (.d (.v (.bool r)))]) [] := by
  refine callS a30_ok (by simp [a30]) ?_
  rw [F30] at h
  simp only [a30, VW.down, Nat.reduceEqDiff, reduceCtorEq, Nat.reduceAdd, Nat.reduceLeDiff, Nat.reduceLT, Nat.reduceBEq, Nat.reduceSub, EE.down]
  refine condS (fun c1 => ?_) (fun c1 => ?_)
  · have h := (if_pos c1).symm.trans h
    simp only [VW.down, Nat.reduceEqDiff, reduceCtorEq, Nat.reduceAdd, Nat.reduceLeDiff, Nat.reduceLT, Nat.reduceBEq, Nat.reduceSub, EE.down]
    obtain rfl := Option.some.inj h
    exact eF []
  · have h := (if_neg c1).symm.trans h
    simp only [VW.down, Nat.reduceEqDiff, reduceCtorEq, Nat.reduceAdd, Nat.reduceLeDiff, Nat.reduceLT, Nat.reduceBEq, Nat.reduceSub, EE.down]
    obtain ⟨o2, ho, h⟩ := Option.bind_eq_some_iff.1 h
    refine cutS (fun s => ∃ po2, o2 = Sum.inr po2 ∧ s = ⟨[], []⟩) ?_ ?_
    · have h0o2 := h
      have h := ho
      clear ho
      simp only [VW.down, Nat.reduceEqDiff, reduceCtorEq, Nat.reduceAdd, Nat.reduceLeDiff, Nat.reduceLT, Nat.reduceBEq, Nat.reduceSub, EE.down]
      refine bL (fun j s => ∃ (o2_0 : Int), s = ⟨[(0, .one (.c (.d (.v (.string x0))))), (8, .one (.c (.d (.v (.int .i64 ((x0.size : Int))))))), (9, .one (.c (.d (.v (.int .i64 o2_0)))))], []⟩ ∧ F30_l2 x0 j o2_0 = some o2) 1099511627776 [] ⟨0, rfl, h⟩ ?_
      rintro j _ ⟨o2_0, rfl, h⟩
      cases j with
      | zero => cases (show (none : Option _) = some _ from h)
      | succ j =>
        rw [F30_l2] at h
        simp only [VW.down, Nat.reduceEqDiff, reduceCtorEq, Nat.reduceAdd, Nat.reduceLeDiff, Nat.reduceLT, Nat.reduceBEq, Nat.reduceSub, EE.down]
        refine condS (fun c3 => ?_) (fun c3 => ?_)
        · have h := (if_pos c3).symm.trans h
          simp only [VW.down, Nat.reduceEqDiff, reduceCtorEq, Nat.reduceAdd, Nat.reduceLeDiff, Nat.reduceLT, Nat.reduceBEq, Nat.reduceSub, EE.down]
          obtain ⟨o4, ho, h⟩ := Option.bind_eq_some_iff.1 h
          refine cutS (fun s => s = ⟨[(0, .one (.c (.d (.v (.string x0))))), (8, .one (.c (.d (.v (.int .i64 ((x0.size : Int))))))), (9, .one (.c (.d (.v (.int .i64 o2_0))))), (22, .one (.c (.d (.v (.bool o4)))))], []⟩) ?_ ?_
          · have h := ho
            clear ho
            simp only [VW.down, Nat.reduceEqDiff, reduceCtorEq, Nat.reduceAdd, Nat.reduceLeDiff, Nat.reduceLT, Nat.reduceBEq, Nat.reduceSub, EE.down]
            obtain ⟨y5, hy5, h⟩ := Option.bind_eq_some_iff.1 h
            refine t_sidx rfl rfl hy5 ?_
            simp only [VW.down, Nat.reduceEqDiff, reduceCtorEq, Nat.reduceAdd, Nat.reduceLeDiff, Nat.reduceLT, Nat.reduceBEq, Nat.reduceSub, EE.down]
            obtain ⟨t6, ht6, h⟩ := Option.bind_eq_some_iff.1 h
            refine callX_n [] (F51_ok ht6) ?_ ?_ ?_ ?_ ?_ ?_
            · first | rfl | simp [nrmA, nrmC, nrm, A1.ren, C.ren, rn, List.length_set]
            · simp [liveAll, A1.live, C.live]
            · rfl
            · decide
            · exact trivial
            simp only [VW.down, Nat.reduceEqDiff, reduceCtorEq, Nat.reduceAdd, Nat.reduceLeDiff, Nat.reduceLT, Nat.reduceBEq, Nat.reduceSub, EE.down]
            refine guardSB (fun g7 => ?_) (fun g7 => ?_)
            · have h := (if_pos g7).symm.trans h
              simp only [VW.down, Nat.reduceEqDiff, reduceCtorEq, Nat.reduceAdd, Nat.reduceLeDiff, Nat.reduceLT, Nat.reduceBEq, Nat.reduceSub, EE.down]
              obtain rfl := Option.some.inj h
              exact eM [] rfl
            · have h := (if_neg g7).symm.trans h
              simp only [VW.down, Nat.reduceEqDiff, reduceCtorEq, Nat.reduceAdd, Nat.reduceLeDiff, Nat.reduceLT, Nat.reduceBEq, Nat.reduceSub, EE.down]
              obtain ⟨y8, hy8, h⟩ := Option.bind_eq_some_iff.1 h
              refine t_sidx rfl rfl hy8 ?_
              simp only [VW.down, Nat.reduceEqDiff, reduceCtorEq, Nat.reduceAdd, Nat.reduceLeDiff, Nat.reduceLT, Nat.reduceBEq, Nat.reduceSub, EE.down]
              obtain rfl := Option.some.inj h
              exact eM [] rfl
          · rintro _ rfl
            clear ho
            simp only [VW.down, Nat.reduceEqDiff, reduceCtorEq, Nat.reduceAdd, Nat.reduceLeDiff, Nat.reduceLT, Nat.reduceBEq, Nat.reduceSub, EE.down]
            refine condB (fun c9 => ?_) (fun c9 => ?_)
            · have h := (if_pos c9).symm.trans h
              simp only [VW.down, Nat.reduceEqDiff, reduceCtorEq, Nat.reduceAdd, Nat.reduceLeDiff, Nat.reduceLT, Nat.reduceBEq, Nat.reduceSub, EE.down]
              obtain ⟨fh0o2, hfh0o2, rfl⟩ := Option.map_eq_some_iff.1 h
              have h := hfh0o2.trans h0o2
              obtain rfl := Option.some.inj h
              exact eF []
            · have h := (if_neg c9).symm.trans h
              simp only [VW.down, Nat.reduceEqDiff, reduceCtorEq, Nat.reduceAdd, Nat.reduceLeDiff, Nat.reduceLT, Nat.reduceBEq, Nat.reduceSub, EE.down]
              exact eL' j [] ⟨(IntKind.i64.wrap (o2_0 + 1)), rfl, h⟩ (Nat.lt_succ_self _)
        · have h := (if_neg c3).symm.trans h
          simp only [VW.down, Nat.reduceEqDiff, reduceCtorEq, Nat.reduceAdd, Nat.reduceLeDiff, Nat.reduceLT, Nat.reduceBEq, Nat.reduceSub, EE.down]
          obtain rfl := Option.some.inj h
          exact eM [] ⟨_, rfl, rfl⟩
    · rintro _ ⟨po2, rfl, rfl⟩
      clear ho
      dsimp only at h
      simp only [VW.down, Nat.reduceEqDiff, reduceCtorEq, Nat.reduceAdd, Nat.reduceLeDiff, Nat.reduceLT, Nat.reduceBEq, Nat.reduceSub, EE.down]
      obtain rfl := Option.some.inj h
      exact eF []

/- orchestrator/label.check$1 -/
def F63 (x0 : ByteArray) : Option (Bool) := (F30 x0).bind fun t1 => some (nb t1)
def a63 : AFn := ⟨6, [(.tmp 2)],
 (.seq (.reg [⟨(some 2), none, .mv (kB false), [], (.new [])⟩])
 (.seq (.reg [⟨(some 3), none, .mv (.t 0), [], (.new [])⟩,
   ⟨(some 4), none, .call 30 [(.t 3)], [], (.new [])⟩,
   ⟨(some 5), none, .not (.t 4), [], (.new [])⟩,
   ⟨(some 2), none, .mv (.t 5), [], (.new [])⟩])
 .ret))⟩
theorem a63_ok : afn Try.prog 63 = some a63.er := by kernel_rfl
theorem F63_ok {x0 : ByteArray} {r : Bool} (h : F63 x0 = some r) : CallD Try.prog 63 [.c (.d (.v (.string x0)))] [] (tupV [.c (.d (.v (.bool r)))]) [] := by
  refine callS a63_ok (by simp [a63]) ?_
  rw [F63] at h
  simp only [a63, VW.down, Nat.reduceEqDiff, reduceCtorEq, Nat.reduceAdd, Nat.reduceLeDiff, Nat.reduceLT, Nat.reduceBEq, Nat.reduceSub, EE.down]
  obtain ⟨t1, ht1, h⟩ := Option.bind_eq_some_iff.1 h
  refine callX_n [] (F30_ok ht1) ?_ ?_ ?_ ?_ ?_ ?_
  · first | rfl | simp [nrmA, nrmC, nrm, A1.ren, C.ren, rn, List.length_set]
  · simp [liveAll, A1.live, C.live]
  · rfl
  · decide
  · exact trivial
  simp only [VW.down, Nat.reduceEqDiff, reduceCtorEq, Nat.reduceAdd, Nat.reduceLeDiff, Nat.reduceLT, Nat.reduceBEq, Nat.reduceSub, EE.down]
  obtain rfl := Option.some.inj h
  exact eF []

/- slices.IndexFunc[[]string,string] -/
def F76_l1  : List ByteArray → Nat → Option ((Int) ⊕ (Unit))
  | [], o1_0 => some (Sum.inr (()))
  | xo1 :: xs, o1_0 => (F63 xo1).bind fun t3 => (if t3 = true then (some ((o1_0 : Int))).map Sum.inl else F76_l1  xs (o1_0 + 1))
def F76 (x0 : (List ByteArray)) : Option (Int) := (((ck (0 ≤ x0.length ∧ x0.length ≤ 4294967290)).bind fun u5 => F76_l1 x0 0 : Option ((Int) ⊕ (Unit))).bind fun o1 => match o1 with | Sum.inl f => some f | Sum.inr po1 => some ((-1)))
def a76 : AFn := ⟨19, [(.tmp 4)],
 (.seq (.reg [⟨(some 4), none, .mv (kI 0), [], (.new [])⟩])
 (.seq (.seq (.reg [⟨(some 6), none, .mv (.t 0), [], (.new [])⟩,
   ⟨(some 7), none, .len (.t 6), [], (.new [])⟩,
   ⟨(some 8), none, .mv (kI 0), [], (.new [])⟩])
 (.sem (.block 0 (.loop (.seq (.reg [⟨(some 9), none, .bin .lss (.t 8) (.t 7), [], (.new [])⟩])
 (.seq (.cond (.t 9)
 .skip
 (.exit 0))
 (.seq (.block 1 (.seq (.reg [⟨(some 10), none, .mv (.t 8), [], (.new [])⟩,
   ⟨(some 5), none, .mv (.t 10), [], (.new [])⟩])
 (.seq (.reg [⟨(some 11), none, .mv (.t 1), [], (.new [])⟩,
   ⟨(some 12), none, .mv (.t 0), [], (.new [])⟩,
   ⟨(some 13), none, .mv (.t 5), [], (.new [])⟩,
   ⟨(some 14), none, .indexA 1 (.t 12) (.t 13), [], (.new [])⟩,
   ⟨(some 15), none, .load none (.t 14), [], (.new [])⟩,
   ⟨(some 16), none, .callv (.t 11) [(.t 15)], [], (.lone [12, 14])⟩])
 (.cond (.t 16)
 (.seq (.reg [⟨(some 17), none, .mv (.t 5), [], (.new [])⟩,
   ⟨(some 4), none, .mv (.t 17), [], (.new [])⟩])
 .ret)
 .skip))))
 (.reg [⟨(some 18), none, .bin .add (.t 8) (kI 1), [], (.new [])⟩,
   ⟨(some 8), none, .mv (.t 18), [], (.new [])⟩]))))))))
 (.seq (.reg [⟨(some 4), none, .mv (kI (-1)), [], (.new [])⟩])
 .ret)))⟩
theorem a76_ok : afn Try.prog 76 = some a76.er := by kernel_rfl
theorem F76_ok {x0 : (List ByteArray)} {r : Int} (h : F76 x0 = some r) : CallD Try.prog 76 [.c (.d (.sl (x0.map eS))), .c (.fn 63 [])] [] (tupV [.c (.d (.v (.int .i64 r)))]) [] := by
  refine callS a76_ok (by simp [a76]) ?_
  rw [F76] at h
  simp only [a76, VW.down, Nat.reduceEqDiff, reduceCtorEq, Nat.reduceAdd, Nat.reduceLeDiff, Nat.reduceLT, Nat.reduceBEq, Nat.reduceSub, EE.down]
  obtain ⟨o1, ho, h⟩ := Option.bind_eq_some_iff.1 h
  refine cutS (fun s => ∃ po1, o1 = Sum.inr po1 ∧ s = ⟨[], []⟩) ?_ ?_
  · have h0o1 := h
    have h := ho
    clear ho
    obtain ⟨_, hk, h⟩ := Option.bind_eq_some_iff.1 h
    have hk := ck_some hk
    simp only [VW.down, Nat.reduceEqDiff, reduceCtorEq, Nat.reduceAdd, Nat.reduceLeDiff, Nat.reduceLT, Nat.reduceBEq, Nat.reduceSub, EE.down]
    refine bL (fun j s => ∃ (o1_0 : Nat), (o1_0 ≤ x0.length ∧ j = x0.length - o1_0) ∧ s = ⟨[(0, .one (.c (.d (.sl (x0.map eS))))), (1, .one (.c (.fn 63 []))), (7, .one (.c (.d (.v (.int .i64 ((x0.length : Int))))))), (8, .one (.c (.d (.v (.int .i64 ((o1_0 : Int)))))))], []⟩ ∧ F76_l1 (x0.drop o1_0) o1_0 = some o1) (x0.length - 0) [] ⟨0, ⟨hk.1, rfl⟩, rfl, h⟩ ?_
    rintro _ _ ⟨o1_0, ⟨hi, rfl⟩, rfl, h⟩
    simp only [VW.down, Nat.reduceEqDiff, reduceCtorEq, Nat.reduceAdd, Nat.reduceLeDiff, Nat.reduceLT, Nat.reduceBEq, Nat.reduceSub, EE.down]
    refine condS (fun c2 => ?_) (fun c2 => ?_)
    · obtain ⟨xo1, hxo1, hd⟩ := countY (show (o1_0 : Int) < (x0.length : Int) from c2)
      rw [hd, F76_l1] at h
      simp only [VW.down, Nat.reduceEqDiff, reduceCtorEq, Nat.reduceAdd, Nat.reduceLeDiff, Nat.reduceLT, Nat.reduceBEq, Nat.reduceSub, EE.down]
      refine t_idxF (enc := eS) (xs := x0) rfl rfl hxo1 rfl ?_
      simp only [VW.down, Nat.reduceEqDiff, reduceCtorEq, Nat.reduceAdd, Nat.reduceLeDiff, Nat.reduceLT, Nat.reduceBEq, Nat.reduceSub, EE.down]
      obtain ⟨t3, ht3, h⟩ := Option.bind_eq_some_iff.1 h
      refine callX_n [] (F63_ok ht3) ?_ ?_ ?_ ?_ ?_ ?_
      · first | rfl | simp [nrmA, nrmC, nrm, A1.ren, C.ren, rn, List.length_set]
      · simp [liveAll, A1.live, C.live]
      · rfl
      · decide
      · exact trivial
      simp only [VW.down, Nat.reduceEqDiff, reduceCtorEq, Nat.reduceAdd, Nat.reduceLeDiff, Nat.reduceLT, Nat.reduceBEq, Nat.reduceSub, EE.down]
      refine condB (fun c4 => ?_) (fun c4 => ?_)
      · have h := (if_pos c4).symm.trans h
        simp only [VW.down, Nat.reduceEqDiff, reduceCtorEq, Nat.reduceAdd, Nat.reduceLeDiff, Nat.reduceLT, Nat.reduceBEq, Nat.reduceSub, EE.down]
        obtain ⟨fh0o1, hfh0o1, rfl⟩ := Option.map_eq_some_iff.1 h
        have h := hfh0o1.trans h0o1
        obtain rfl := Option.some.inj h
        exact eF []
      · have h := (if_neg c4).symm.trans h
        simp only [VW.down, Nat.reduceEqDiff, reduceCtorEq, Nat.reduceAdd, Nat.reduceLeDiff, Nat.reduceLT, Nat.reduceBEq, Nat.reduceSub, EE.down]
        rw [wrapN (by omega)]
        exact eL' (x0.length - (o1_0 + 1)) [] ⟨o1_0 + 1, ⟨by omega, rfl⟩, rfl, h⟩ (by omega)
    · rw [countN (show ¬ ((o1_0 : Int) < (x0.length : Int)) from c2), F76_l1] at h
      simp only [VW.down, Nat.reduceEqDiff, reduceCtorEq, Nat.reduceAdd, Nat.reduceLeDiff, Nat.reduceLT, Nat.reduceBEq, Nat.reduceSub, EE.down]
      obtain rfl := Option.some.inj h
      exact eM [] ⟨_, rfl, rfl⟩
  · rintro _ ⟨po1, rfl, rfl⟩
    clear ho
    dsimp only at h
    simp only [VW.down, Nat.reduceEqDiff, reduceCtorEq, Nat.reduceAdd, Nat.reduceLeDiff, Nat.reduceLT, Nat.reduceBEq, Nat.reduceSub, EE.down]
    obtain rfl := Option.some.inj h
    exact eF []

/- slices.ContainsFunc[[]string,string] -/
def F62 (x0 : (List ByteArray)) : Option (Bool) := (F76 x0).bind fun t1 => some (decide (0 ≤ t1))
def a62 : AFn := ⟨9, [(.tmp 4)],
 (.seq (.reg [⟨(some 4), none, .mv (kB false), [], (.new [])⟩])
 (.seq (.reg [⟨(some 5), none, .mv (.t 0), [], (.new [])⟩,
   ⟨(some 6), none, .mv (.t 1), [], (.new [])⟩,
   ⟨(some 7), none, .call 76 [(.t 5), (.t 6)], [], (.new [])⟩,
   ⟨(some 8), none, .bin .geq (.t 7) (kI 0), [], (.new [])⟩,
   ⟨(some 4), none, .mv (.t 8), [], (.new [])⟩])
 .ret))⟩
theorem a62_ok : afn Try.prog 62 = some a62.er := by kernel_rfl
theorem F62_ok {x0 : (List ByteArray)} {r : Bool} (h : F62 x0 = some r) : CallD Try.prog 62 [.c (.d (.sl (x0.map eS))), .c (.fn 63 [])] [] (tupV [.c (.d (.v (.bool r)))]) [] := by
  refine callS a62_ok (by simp [a62]) ?_
  rw [F62] at h
  simp only [a62, VW.down, Nat.reduceEqDiff, reduceCtorEq, Nat.reduceAdd, Nat.reduceLeDiff, Nat.reduceLT, Nat.reduceBEq, Nat.reduceSub, EE.down]
  obtain ⟨t1, ht1, h⟩ := Option.bind_eq_some_iff.1 h
  refine callX_n [] (F76_ok ht1) ?_ ?_ ?_ ?_ ?_ ?_
  · first | rfl | simp [nrmA, nrmC, nrm, A1.ren, C.ren, rn, List.length_set]
  · simp [liveAll, A1.live, C.live]
  · rfl
  · decide
  · exact trivial
  simp only [VW.down, Nat.reduceEqDiff, reduceCtorEq, Nat.reduceAdd, Nat.reduceLeDiff, Nat.reduceLT, Nat.reduceBEq, Nat.reduceSub, EE.down]
  obtain rfl := Option.some.inj h
  exact eF []

/- orchestrator/label.check -/
def F43 (x0 : Requirement) : Option (Int) := (((F29 x0.Key).bind fun t2 => (if (nb t2) = true then some (nb t2) else (F62 x0.Values).bind fun t4 => some t4)).bind fun o1 => (if o1 = true then some 1 else (if 64 < (x0.Values.length : Int) then some 4 else some 0)))
def a43 : AFn := ⟨16, [(.tmp 2)],
 (.seq (.reg [⟨(some 1), none, .box (.t 0), [], (.new [])⟩,
   ⟨(some 2), none, .mv (kI 0), [], (.new [])⟩])
 (.seq (.block 0 (.seq (.sem (.seq (.reg [⟨(some 4), none, .fieldA 0 (.t 1), [], (.new [])⟩,
   ⟨(some 5), none, .load none (.t 4), [], (.new [])⟩,
   ⟨(some 6), none, .call 29 [(.t 5)], [], (.new [])⟩,
   ⟨(some 7), none, .not (.t 6), [], (.new [])⟩,
   ⟨(some 3), none, .mv (.t 7), [], (.new [])⟩])
 (.cond (.t 3)
 .skip
 (.reg [⟨(some 8), none, .fieldA 2 (.t 1), [], (.new [])⟩,
   ⟨(some 9), none, .load none (.t 8), [], (.new [])⟩,
   ⟨(some 10), none, .call 62 [(.t 9), (.f 63)], [], (.new [])⟩,
   ⟨(some 3), none, .mv (.t 10), [], (.new [])⟩]))))
 (.cond (.t 3)
 (.seq (.reg [⟨(some 2), none, .mv (kI 1), [], (.new [])⟩])
 .ret)
 (.seq (.reg [⟨(some 12), none, .fieldA 2 (.t 1), [], (.new [])⟩,
   ⟨(some 13), none, .load none (.t 12), [], (.new [])⟩,
   ⟨(some 14), none, .len (.t 13), [], (.new [])⟩,
   ⟨(some 15), none, .bin .gtr (.t 14) (kI 64), [], (.new [])⟩,
   ⟨(some 11), none, .mv (.t 15), [], (.new [])⟩])
 (.cond (.t 11)
 (.seq (.reg [⟨(some 2), none, .mv (kI 4), [], (.new [])⟩])
 .ret)
 .skip)))))
 (.seq (.reg [⟨(some 2), none, .mv (kI 0), [], (.new [])⟩])
 .ret)))⟩
theorem a43_ok : afn Try.prog 43 = some a43.er := by kernel_rfl
theorem F43_ok {x0 : Requirement} {r : Int} (h : F43 x0 = some r) : CallD Try.prog 43 [.agg [.d (.v (.string x0.Key)), .d (.v (.int .i64 x0.Op)), .d (.sl (x0.Values.map eS))]] [] (tupV [.c (.d (.v (.int .i64 r)))]) [] := by
  refine callS a43_ok (by simp [a43]) ?_
  rw [F43] at h
  simp only [a43, VW.down, Nat.reduceEqDiff, reduceCtorEq, Nat.reduceAdd, Nat.reduceLeDiff, Nat.reduceLT, Nat.reduceBEq, Nat.reduceSub, EE.down]
  obtain ⟨o1, ho, h⟩ := Option.bind_eq_some_iff.1 h
  refine cutS (fun s => s = ⟨[(1, .one (.c (.pt 0 0))), (3, .one (.c (.d (.v (.bool o1)))))], [some (.box [.d (.v (.string x0.Key)), .d (.v (.int .i64 x0.Op)), .d (.sl (x0.Values.map eS))])]⟩) ?_ ?_
  · have h := ho
    clear ho
    simp only [VW.down, Nat.reduceEqDiff, reduceCtorEq, Nat.reduceAdd, Nat.reduceLeDiff, Nat.reduceLT, Nat.reduceBEq, Nat.reduceSub, EE.down]
    obtain ⟨t2, ht2, h⟩ := Option.bind_eq_some_iff.1 h
    refine callX_n [] (F29_ok ht2) ?_ ?_ ?_ ?_ ?_ ?_
    · first | rfl | simp [nrmA, nrmC, nrm, A1.ren, C.ren, rn, List.length_set]
    · simp [liveAll, A1.live, C.live]
    · rfl
    · decide
    · exact trivial
    simp only [VW.down, Nat.reduceEqDiff, reduceCtorEq, Nat.reduceAdd, Nat.reduceLeDiff, Nat.reduceLT, Nat.reduceBEq, Nat.reduceSub, EE.down]
    refine condB (fun c3 => ?_) (fun c3 => ?_)
    · have h := (if_pos c3).symm.trans h
      simp only [VW.down, Nat.reduceEqDiff, reduceCtorEq, Nat.reduceAdd, Nat.reduceLeDiff, Nat.reduceLT, Nat.reduceBEq, Nat.reduceSub, EE.down]
      obtain rfl := Option.some.inj h
      exact eM [some 0] rfl
    · have h := (if_neg c3).symm.trans h
      simp only [VW.down, Nat.reduceEqDiff, reduceCtorEq, Nat.reduceAdd, Nat.reduceLeDiff, Nat.reduceLT, Nat.reduceBEq, Nat.reduceSub, EE.down]
      obtain ⟨t4, ht4, h⟩ := Option.bind_eq_some_iff.1 h
      refine callX_n [] (F62_ok ht4) ?_ ?_ ?_ ?_ ?_ ?_
      · first | rfl | simp [nrmA, nrmC, nrm, A1.ren, C.ren, rn, List.length_set]
      · simp [liveAll, A1.live, C.live]
      · rfl
      · decide
      · exact trivial
      simp only [VW.down, Nat.reduceEqDiff, reduceCtorEq, Nat.reduceAdd, Nat.reduceLeDiff, Nat.reduceLT, Nat.reduceBEq, Nat.reduceSub, EE.down]
      obtain rfl := Option.some.inj h
      exact eM [some 0] rfl
  · rintro _ rfl
    clear ho
    simp only [VW.down, Nat.reduceEqDiff, reduceCtorEq, Nat.reduceAdd, Nat.reduceLeDiff, Nat.reduceLT, Nat.reduceBEq, Nat.reduceSub, EE.down]
    refine condB (fun c5 => ?_) (fun c5 => ?_)
    · have h := (if_pos c5).symm.trans h
      simp only [VW.down, Nat.reduceEqDiff, reduceCtorEq, Nat.reduceAdd, Nat.reduceLeDiff, Nat.reduceLT, Nat.reduceBEq, Nat.reduceSub, EE.down]
      obtain rfl := Option.some.inj h
      exact eF []
    · have h := (if_neg c5).symm.trans h
      simp only [VW.down, Nat.reduceEqDiff, reduceCtorEq, Nat.reduceAdd, Nat.reduceLeDiff, Nat.reduceLT, Nat.reduceBEq, Nat.reduceSub, EE.down]
      refine condS (fun c6 => ?_) (fun c6 => ?_)
      · have h := (if_pos c6).symm.trans h
        simp only [VW.down, Nat.reduceEqDiff, reduceCtorEq, Nat.reduceAdd, Nat.reduceLeDiff, Nat.reduceLT, Nat.reduceBEq, Nat.reduceSub, EE.down]
        obtain rfl := Option.some.inj h
        exact eF []
      · have h := (if_neg c6).symm.trans h
        simp only [VW.down, Nat.reduceEqDiff, reduceCtorEq, Nat.reduceAdd, Nat.reduceLeDiff, Nat.reduceLT, Nat.reduceBEq, Nat.reduceSub, EE.down]
        obtain rfl := Option.some.inj h
        exact eF []

/- (*orchestrator/label.parser).accept -/
def F41 (x1 : ByteArray) (b0 : Parser) : Option (((List ByteArray)) × Bool) := (((if (b0.tokens.length : Int) = 0 then some true else (rdI b0.tokens 0).bind fun y3 => some (decide (¬ (y3 = x1))))).bind fun o1 => (if o1 = true then some ((b0.tokens, false)) else (slI b0.tokens 1 ((b0.tokens.length : Int))).bind fun s5 => some ((s5, true))))
def a41 : AFn := ⟨29, [(.tmp 4)],
 (.seq (.reg [⟨(some 4), none, .mv (kB false), [], (.new [])⟩])
 (.seq (.seq (.sem (.reg [⟨(some 5), none, .mv (.t 0), [], (.new [])⟩,
   ⟨(some 6), none, .fieldA 0 (.t 5), [], (.new [])⟩,
   ⟨(some 7), none, .fieldA 0 (.t 6), [], (.new [])⟩,
   ⟨(some 8), none, .load none (.t 7), [], (.new [])⟩,
   ⟨(some 9), none, .len (.t 8), [], (.new [])⟩,
   ⟨(some 10), none, .bin .eql (.t 9) (kI 0), [], (.new [])⟩,
   ⟨(some 11), none, .mv (.t 10), [], (.new [])⟩,
   ⟨(some 12), (some (11, false)), .mv (.t 0), [], (.new [])⟩,
   ⟨(some 13), (some (11, false)), .fieldA 0 (.t 12), [], (.new [])⟩,
   ⟨(some 14), (some (11, false)), .fieldA 0 (.t 13), [], (.new [])⟩,
   ⟨(some 15), (some (11, false)), .load none (.t 14), [], (.new [])⟩,
   ⟨(some 16), (some (11, false)), .indexA 1 (.t 15) (kI 0), [], (.new [])⟩,
   ⟨(some 17), (some (11, false)), .load none (.t 16), [], (.new [])⟩,
   ⟨(some 18), (some (11, false)), .mv (.t 1), [], (.new [])⟩,
   ⟨(some 19), (some (11, false)), .bin .neq (.t 17) (.t 18), [], (.new [])⟩,
   ⟨(some 20), none, .pick (.t 11) (kB true) (.t 19), [], (.lone [5, 6, 7, 8, 12, 13, 14, 15, 16])⟩]))
 (.cond (.t 20)
 (.seq (.reg [⟨(some 4), none, .mv (kB false), [], (.new [])⟩])
 .ret)
 .skip))
 (.seq (.reg [⟨(some 21), none, .mv (.t 0), [], (.new [])⟩,
   ⟨(some 22), none, .mv (.t 0), [], (.new [])⟩,
   ⟨(some 23), none, .fieldA 0 (.t 22), [], (.new [])⟩,
   ⟨(some 24), none, .fieldA 0 (.t 23), [], (.new [])⟩,
   ⟨(some 25), none, .load none (.t 24), [], (.new [])⟩,
   ⟨(some 26), none, .slice 1 (.t 25) (some (kI 1)) none none, [], (.new [])⟩,
   ⟨(some 27), none, .fieldA 0 (.t 21), [], (.new [])⟩,
   ⟨(some 28), none, .fieldA 0 (.t 27), [], (.new [])⟩,
   ⟨none, none, .store 1 (.t 28) (.t 26), [], (.new [])⟩])
 (.seq (.reg [⟨(some 4), none, .mv (kB true), [], (.new [])⟩])
 .ret))))⟩
theorem a41_ok : afn Try.prog 41 = some a41.er := by kernel_rfl
theorem F41_ok {x1 : ByteArray} {b0 : Parser} {r : ((List ByteArray)) × Bool} (h : F41 x1 b0 = some r) : CallD Try.prog 41 [.c (.pt 0 0), .c (.d (.v (.string x1)))] [some (.box [.d (.sl (b0.tokens.map eS)), .d (.v (.bool b0.failed))])] (tupV [.c (.d (.v (.bool r.2)))]) [some (.box [.d (.sl (r.1.map eS)), .d (.v (.bool b0.failed))])] := by
  refine callS a41_ok (by simp [a41]) ?_
  rw [F41] at h
  simp only [a41, VW.down, Nat.reduceEqDiff, reduceCtorEq, Nat.reduceAdd, Nat.reduceLeDiff, Nat.reduceLT, Nat.reduceBEq, Nat.reduceSub, EE.down]
  obtain ⟨o1, ho, h⟩ := Option.bind_eq_some_iff.1 h
  refine cutS (fun s => s = ⟨[(0, .one (.c (.pt 0 0))), (20, .one (.c (.d (.v (.bool o1)))))], [some (.box [.d (.sl (b0.tokens.map eS)), .d (.v (.bool b0.failed))])]⟩) ?_ ?_
  · have h := ho
    clear ho
    simp only [VW.down, Nat.reduceEqDiff, reduceCtorEq, Nat.reduceAdd, Nat.reduceLeDiff, Nat.reduceLT, Nat.reduceBEq, Nat.reduceSub, EE.down]
    refine guardS (fun g2 => ?_) (fun g2 => ?_)
    · have h := (if_pos g2).symm.trans h
      simp only [VW.down, Nat.reduceEqDiff, reduceCtorEq, Nat.reduceAdd, Nat.reduceLeDiff, Nat.reduceLT, Nat.reduceBEq, Nat.reduceSub, EE.down]
      obtain rfl := Option.some.inj h
      exact eM [some 0] rfl
    · have h := (if_neg g2).symm.trans h
      simp only [VW.down, Nat.reduceEqDiff, reduceCtorEq, Nat.reduceAdd, Nat.reduceLeDiff, Nat.reduceLT, Nat.reduceBEq, Nat.reduceSub, EE.down]
      obtain ⟨y3, hy3, h⟩ := Option.bind_eq_some_iff.1 h
      refine t_idxF (enc := eS) (xs := b0.tokens) rfl rfl hy3 rfl ?_
      simp only [VW.down, Nat.reduceEqDiff, reduceCtorEq, Nat.reduceAdd, Nat.reduceLeDiff, Nat.reduceLT, Nat.reduceBEq, Nat.reduceSub, EE.down]
      obtain rfl := Option.some.inj h
      exact eM [some 0] rfl
  · rintro _ rfl
    clear ho
    simp only [VW.down, Nat.reduceEqDiff, reduceCtorEq, Nat.reduceAdd, Nat.reduceLeDiff, Nat.reduceLT, Nat.reduceBEq, Nat.reduceSub, EE.down]
    refine condB (fun c4 => ?_) (fun c4 => ?_)
    · have h := (if_pos c4).symm.trans h
      simp only [VW.down, Nat.reduceEqDiff, reduceCtorEq, Nat.reduceAdd, Nat.reduceLeDiff, Nat.reduceLT, Nat.reduceBEq, Nat.reduceSub, EE.down]
      obtain rfl := Option.some.inj h
      exact eF [some 0]
    · have h := (if_neg c4).symm.trans h
      simp only [VW.down, Nat.reduceEqDiff, reduceCtorEq, Nat.reduceAdd, Nat.reduceLeDiff, Nat.reduceLT, Nat.reduceBEq, Nat.reduceSub, EE.down]
      obtain ⟨s5, hs5, h⟩ := Option.bind_eq_some_iff.1 h
      refine t_slice (enc := eS) (xs := b0.tokens) rfl rfl rfl (fun _ => rfl) hs5 ?_
      simp only [VW.down, Nat.reduceEqDiff, reduceCtorEq, Nat.reduceAdd, Nat.reduceLeDiff, Nat.reduceLT, Nat.reduceBEq, Nat.reduceSub, EE.down]
      obtain rfl := Option.some.inj h
      exact eF [some 0]

/- (*orchestrator/label.parser).peek -/
def F73 (b0 : Parser) : Option (ByteArray) := (if (b0.tokens.length : Int) = 0 then some ((⟨#[]⟩ : ByteArray)) else (rdI b0.tokens 0).bind fun y2 => some y2)
def a73 : AFn := ⟨15, [(.tmp 2)],
 (.seq (.reg [⟨(some 2), none, .mv (kS ⟨#[]⟩), [], (.new [])⟩])
 (.seq (.seq (.reg [⟨(some 3), none, .mv (.t 0), [], (.new [])⟩,
   ⟨(some 4), none, .fieldA 0 (.t 3), [], (.new [])⟩,
   ⟨(some 5), none, .fieldA 0 (.t 4), [], (.new [])⟩,
   ⟨(some 6), none, .load none (.t 5), [], (.new [])⟩,
   ⟨(some 7), none, .len (.t 6), [], (.new [])⟩,
   ⟨(some 8), none, .bin .eql (.t 7) (kI 0), [], (.new [])⟩])
 (.cond (.t 8)
 (.seq (.reg [⟨(some 2), none, .mv (kS ⟨#[]⟩), [], (.new [])⟩])
 .ret)
 .skip))
 (.seq (.reg [⟨(some 9), none, .mv (.t 0), [], (.new [])⟩,
   ⟨(some 10), none, .fieldA 0 (.t 9), [], (.new [])⟩,
   ⟨(some 11), none, .fieldA 0 (.t 10), [], (.new [])⟩,
   ⟨(some 12), none, .load none (.t 11), [], (.new [])⟩,
   ⟨(some 13), none, .indexA 1 (.t 12) (kI 0), [], (.new [])⟩,
   ⟨(some 14), none, .load none (.t 13), [], (.new [])⟩,
   ⟨(some 2), none, .mv (.t 14), [], (.new [])⟩])
 .ret)))⟩
theorem a73_ok : afn Try.prog 73 = some a73.er := by kernel_rfl
theorem F73_ok {b0 : Parser} {r : ByteArray} (h : F73 b0 = some r) : CallD Try.prog 73 [.c (.pt 0 0)] [some (.box [.d (.sl (b0.tokens.map eS)), .d (.v (.bool b0.failed))])] (tupV [.c (.d (.v (.string r)))]) [some (.box [.d (.sl (b0.tokens.map eS)), .d (.v (.bool b0.failed))])] := by
  refine callS a73_ok (by simp [a73]) ?_
  rw [F73] at h
  simp only [a73, VW.down, Nat.reduceEqDiff, reduceCtorEq, Nat.reduceAdd, Nat.reduceLeDiff, Nat.reduceLT, Nat.reduceBEq, Nat.reduceSub, EE.down]
  refine condS (fun c1 => ?_) (fun c1 => ?_)
  · have h := (if_pos c1).symm.trans h
    simp only [VW.down, Nat.reduceEqDiff, reduceCtorEq, Nat.reduceAdd, Nat.reduceLeDiff, Nat.reduceLT, Nat.reduceBEq, Nat.reduceSub, EE.down]
    obtain rfl := Option.some.inj h
    exact eF [some 0]
  · have h := (if_neg c1).symm.trans h
    simp only [VW.down, Nat.reduceEqDiff, reduceCtorEq, Nat.reduceAdd, Nat.reduceLeDiff, Nat.reduceLT, Nat.reduceBEq, Nat.reduceSub, EE.down]
    obtain ⟨y2, hy2, h⟩ := Option.bind_eq_some_iff.1 h
    refine t_idxF (enc := eS) (xs := b0.tokens) rfl rfl hy2 rfl ?_
    simp only [VW.down, Nat.reduceEqDiff, reduceCtorEq, Nat.reduceAdd, Nat.reduceLeDiff, Nat.reduceLT, Nat.reduceBEq, Nat.reduceSub, EE.down]
    obtain rfl := Option.some.inj h
    exact eF [some 0]

/- (*orchestrator/label.parser).word -/
def F60 (b0 : Parser) : Option (((List ByteArray)) × ByteArray) := (F73 b0).bind fun t1 => (((if t1 = (⟨#[]⟩ : ByteArray) then some true else (byI t1 0).bind fun y4 => (F51 y4).bind fun t5 => some (nb t5))).bind fun o2 => (if o2 = true then some ((b0.tokens, (⟨#[]⟩ : ByteArray))) else (slI b0.tokens 1 ((b0.tokens.length : Int))).bind fun s7 => some ((s7, t1))))
def a60 : AFn := ⟨23, [(.tmp 2)],
 (.seq (.reg [⟨(some 2), none, .mv (kS ⟨#[]⟩), [], (.new [])⟩])
 (.seq (.reg [⟨(some 4), none, .mv (.t 0), [], (.new [])⟩,
   ⟨(some 5), none, .call 73 [(.t 4)], [], (.new [])⟩,
   ⟨(some 3), none, .mv (.t 5), [], (.new [])⟩])
 (.seq (.seq (.sem (.reg [⟨(some 6), none, .mv (.t 3), [], (.new [])⟩,
   ⟨(some 7), none, .bin .eql (.t 6) (kS ⟨#[]⟩), [], (.new [])⟩,
   ⟨(some 8), none, .mv (.t 7), [], (.new [])⟩,
   ⟨(some 9), (some (8, false)), .mv (.t 3), [], (.new [])⟩,
   ⟨(some 10), (some (8, false)), .sidx (.t 9) (kI 0), [], (.new [])⟩,
   ⟨(some 11), (some (8, false)), .call 51 [(.t 10)], [], (.new [])⟩,
   ⟨(some 12), (some (8, false)), .not (.t 11), [], (.new [])⟩,
   ⟨(some 13), none, .pick (.t 8) (kB true) (.t 12), [], (.new [])⟩]))
 (.cond (.t 13)
 (.seq (.reg [⟨(some 2), none, .mv (kS ⟨#[]⟩), [], (.new [])⟩])
 .ret)
 .skip))
 (.seq (.reg [⟨(some 14), none, .mv (.t 0), [], (.new [])⟩,
   ⟨(some 15), none, .mv (.t 0), [], (.new [])⟩,
   ⟨(some 16), none, .fieldA 0 (.t 15), [], (.new [])⟩,
   ⟨(some 17), none, .fieldA 0 (.t 16), [], (.new [])⟩,
   ⟨(some 18), none, .load none (.t 17), [], (.new [])⟩,
   ⟨(some 19), none, .slice 1 (.t 18) (some (kI 1)) none none, [], (.new [])⟩,
   ⟨(some 20), none, .fieldA 0 (.t 14), [], (.new [])⟩,
   ⟨(some 21), none, .fieldA 0 (.t 20), [], (.new [])⟩,
   ⟨none, none, .store 1 (.t 21) (.t 19), [], (.new [])⟩])
 (.seq (.reg [⟨(some 22), none, .mv (.t 3), [], (.new [])⟩,
   ⟨(some 2), none, .mv (.t 22), [], (.new [])⟩])
 .ret)))))⟩
theorem a60_ok : afn Try.prog 60 = some a60.er := by kernel_rfl
theorem F60_ok {b0 : Parser} {r : ((List ByteArray)) × ByteArray} (h : F60 b0 = some r) : CallD Try.prog 60 [.c (.pt 0 0)] [some (.box [.d (.sl (b0.tokens.map eS)), .d (.v (.bool b0.failed))])] (tupV [.c (.d (.v (.string r.2)))]) [some (.box [.d (.sl (r.1.map eS)), .d (.v (.bool b0.failed))])] := by
  refine callS a60_ok (by simp [a60]) ?_
  rw [F60] at h
  simp only [a60, VW.down, Nat.reduceEqDiff, reduceCtorEq, Nat.reduceAdd, Nat.reduceLeDiff, Nat.reduceLT, Nat.reduceBEq, Nat.reduceSub, EE.down]
  obtain ⟨t1, ht1, h⟩ := Option.bind_eq_some_iff.1 h
  refine callX_n [0] (F73_ok ht1) ?_ ?_ ?_ ?_ ?_ ?_
  · first | rfl | simp [nrmA, nrmC, nrm, A1.ren, C.ren, rn, List.length_set]
  · simp [liveAll, A1.live, C.live, hp]
  · rfl
  · decide
  · exact ⟨⟨rfl, by simp [Blk.live, C.live, hp]⟩, trivial⟩
  simp only [VW.down, Nat.reduceEqDiff, reduceCtorEq, Nat.reduceAdd, Nat.reduceLeDiff, Nat.reduceLT, Nat.reduceBEq, Nat.reduceSub, EE.down]
  obtain ⟨o2, ho, h⟩ := Option.bind_eq_some_iff.1 h
  refine cutS (fun s => s = ⟨[(0, .one (.c (.pt 0 0))), (3, .one (.c (.d (.v (.string t1))))), (13, .one (.c (.d (.v (.bool o2)))))], [some (.box [.d (.sl (b0.tokens.map eS)), .d (.v (.bool b0.failed))])]⟩) ?_ ?_
  · have h := ho
    clear ho
    simp only [VW.down, Nat.reduceEqDiff, reduceCtorEq, Nat.reduceAdd, Nat.reduceLeDiff, Nat.reduceLT, Nat.reduceBEq, Nat.reduceSub, EE.down]
    refine guardS (fun g3 => ?_) (fun g3 => ?_)
    · have h := (if_pos g3).symm.trans h
      simp only [VW.down, Nat.reduceEqDiff, reduceCtorEq, Nat.reduceAdd, Nat.reduceLeDiff, Nat.reduceLT, Nat.reduceBEq, Nat.reduceSub, EE.down]
      obtain rfl := Option.some.inj h
      exact eM [some 0] rfl
    · have h := (if_neg g3).symm.trans h
      simp only [VW.down, Nat.reduceEqDiff, reduceCtorEq, Nat.reduceAdd, Nat.reduceLeDiff, Nat.reduceLT, Nat.reduceBEq, Nat.reduceSub, EE.down]
      obtain ⟨y4, hy4, h⟩ := Option.bind_eq_some_iff.1 h
      refine t_sidx rfl rfl hy4 ?_
      simp only [VW.down, Nat.reduceEqDiff, reduceCtorEq, Nat.reduceAdd, Nat.reduceLeDiff, Nat.reduceLT, Nat.reduceBEq, Nat.reduceSub, EE.down]
      obtain ⟨t5, ht5, h⟩ := Option.bind_eq_some_iff.1 h
      refine callX_n [] (F51_ok ht5) ?_ ?_ ?_ ?_ ?_ ?_
      · first | rfl | simp [nrmA, nrmC, nrm, A1.ren, C.ren, rn, List.length_set]
      · simp [liveAll, A1.live, C.live]
      · rfl
      · decide
      · exact trivial
      simp only [VW.down, Nat.reduceEqDiff, reduceCtorEq, Nat.reduceAdd, Nat.reduceLeDiff, Nat.reduceLT, Nat.reduceBEq, Nat.reduceSub, EE.down]
      obtain rfl := Option.some.inj h
      exact eM [some 0] rfl
  · rintro _ rfl
    clear ho
    simp only [VW.down, Nat.reduceEqDiff, reduceCtorEq, Nat.reduceAdd, Nat.reduceLeDiff, Nat.reduceLT, Nat.reduceBEq, Nat.reduceSub, EE.down]
    refine condB (fun c6 => ?_) (fun c6 => ?_)
    · have h := (if_pos c6).symm.trans h
      simp only [VW.down, Nat.reduceEqDiff, reduceCtorEq, Nat.reduceAdd, Nat.reduceLeDiff, Nat.reduceLT, Nat.reduceBEq, Nat.reduceSub, EE.down]
      obtain rfl := Option.some.inj h
      exact eF [some 0]
    · have h := (if_neg c6).symm.trans h
      simp only [VW.down, Nat.reduceEqDiff, reduceCtorEq, Nat.reduceAdd, Nat.reduceLeDiff, Nat.reduceLT, Nat.reduceBEq, Nat.reduceSub, EE.down]
      obtain ⟨s7, hs7, h⟩ := Option.bind_eq_some_iff.1 h
      refine t_slice (enc := eS) (xs := b0.tokens) rfl rfl rfl (fun _ => rfl) hs7 ?_
      simp only [VW.down, Nat.reduceEqDiff, reduceCtorEq, Nat.reduceAdd, Nat.reduceLeDiff, Nat.reduceLT, Nat.reduceBEq, Nat.reduceSub, EE.down]
      obtain rfl := Option.some.inj h
      exact eF [some 0]

/- slices.Sort at strings -/
def Try.laysSort_ren : Go.Shelf.Ren := ⟨fun | 190 => 74 | 125 => 83 | 258 => 82 | 128 => 99 | 129 => 100 | 302 => 90 | 303 => 91 | 304 => 92 | 305 => 93 | 306 => 94 | 307 => 95 | 308 => 96 | 309 => 97 | 310 => 98 | 333 => 103 | 329 => 104 | 330 => 105 | 334 => 106 | 335 => 107 | 336 => 108 | 344 => 109 | n => n, fun | 31 => 41 | 9 => 9 | 3 => 3 | 46 => 95 | 0 => 0 | 51 => 110 | 53 => 112 | 4 => 4 | 183 => 103 | 182 => 102 | 131 => 107 | 5 => 5 | 218 => 115 | 222 => 119 | 228 => 121 | 229 => 122 | n => n, fun | n => n⟩
theorem Try.laysSort : Go.Proofs.Lays.n190 Try.prog Try.laysSort_ren := {
  mixed := by kernel_rfl
  f125 := Try.func83.trans (congrArg some (by kernel_rfl))
  f128 := Try.func99.trans (congrArg some (by kernel_rfl))
  f129 := Try.func100.trans (congrArg some (by kernel_rfl))
  f190 := Try.func74.trans (congrArg some (by kernel_rfl))
  f258 := Try.func82.trans (congrArg some (by kernel_rfl))
  f302 := Try.func90.trans (congrArg some (by kernel_rfl))
  f303 := Try.func91.trans (congrArg some (by kernel_rfl))
  f304 := Try.func92.trans (congrArg some (by kernel_rfl))
  f305 := Try.func93.trans (congrArg some (by kernel_rfl))
  f306 := Try.func94.trans (congrArg some (by kernel_rfl))
  f307 := Try.func95.trans (congrArg some (by kernel_rfl))
  f308 := Try.func96.trans (congrArg some (by kernel_rfl))
  f309 := Try.func97.trans (congrArg some (by kernel_rfl))
  f310 := Try.func98.trans (congrArg some (by kernel_rfl))
  f329 := Try.func104.trans (congrArg some (by kernel_rfl))
  f330 := Try.func105.trans (congrArg some (by kernel_rfl))
  f333 := Try.func103.trans (congrArg some (by kernel_rfl))
  f334 := Try.func106.trans (congrArg some (by kernel_rfl))
  f335 := Try.func107.trans (congrArg some (by kernel_rfl))
  f336 := Try.func108.trans (congrArg some (by kernel_rfl))
  f344 := Try.func109.trans (congrArg some (by kernel_rfl))
  t0 := Try.underlying0
  a0 := Try.isAgg0
  z0 := Try.sizeOf0
  v0 := Try.zeroValue0
  t3 := Try.underlying3
  a3 := Try.isAgg3
  z3 := Try.sizeOf3
  v3 := Try.zeroValue3
  t4 := Try.underlying4
  a4 := Try.isAgg4
  z4 := Try.sizeOf4
  v4 := Try.zeroValue4
  t5 := Try.underlying5
  a5 := Try.isAgg5
  z5 := Try.sizeOf5
  v5 := Try.zeroValue5
  t9 := Try.underlying9
  a9 := Try.isAgg9
  z9 := Try.sizeOf9
  v9 := Try.zeroValue9
  t31 := Try.underlying41
  a31 := Try.isAgg41
  z31 := Try.sizeOf41
  v31 := Try.zeroValue41
  t46 := Try.underlying95
  a46 := Try.isAgg95
  z46 := Try.sizeOf95
  v46 := Try.zeroValue95
  t51 := Try.underlying110
  a51 := Try.isAgg110
  z51 := Try.sizeOf110
  v51 := Try.zeroValue110
  t53 := Try.underlying112
  a53 := Try.isAgg112
  z53 := Try.sizeOf112
  v53 := Try.zeroValue112
  t131 := Try.underlying107
  a131 := Try.isAgg107
  z131 := Try.sizeOf107
  v131 := Try.zeroValue107
  t182 := Try.underlying102
  a182 := Try.isAgg102
  z182 := Try.sizeOf102
  v182 := Try.zeroValue102
  t183 := Try.underlying103
  a183 := Try.isAgg103
  z183 := Try.sizeOf103
  v183 := Try.zeroValue103
  t218 := Try.underlying115
  a218 := Try.isAgg115
  z218 := Try.sizeOf115
  v218 := Try.zeroValue115
  t222 := Try.underlying119
  a222 := Try.isAgg119
  z222 := Try.sizeOf119
  v222 := Try.zeroValue119
  t228 := Try.underlying121
  a228 := Try.isAgg121
  z228 := Try.sizeOf121
  v228 := Try.zeroValue121
  t229 := Try.underlying122
  a229 := Try.isAgg122
  z229 := Try.sizeOf122
  v229 := Try.zeroValue122 }
theorem F74_ok {x0 r : List ByteArray} {e0 : Nat} (h : sortI x0 = some r) : CallD Try.prog 74 [.c (.own 0 e0 0 x0.length none)] [some (.arr e0 1 (x0.map eS))] (tupV []) [some (.arr e0 1 (r.map eS))] := L_sort (ρ := Try.laysSort_ren) Try.laysSort rfl (by kernel_rfl) h

/- slices.Compact at strings -/
def Try.laysComp_ren : Go.Shelf.Ren := ⟨fun | 194 => 75 | n => n, fun | 31 => 41 | 9 => 9 | 3 => 3 | 4 => 4 | 0 => 0 | n => n, fun | n => n⟩
theorem Try.laysComp : Go.Proofs.Lays.n194 Try.prog Try.laysComp_ren := {
  mixed := by kernel_rfl
  f194 := Try.func75.trans (congrArg some (by kernel_rfl))
  t0 := Try.underlying0
  a0 := Try.isAgg0
  z0 := Try.sizeOf0
  v0 := Try.zeroValue0
  t3 := Try.underlying3
  a3 := Try.isAgg3
  z3 := Try.sizeOf3
  v3 := Try.zeroValue3
  t4 := Try.underlying4
  a4 := Try.isAgg4
  z4 := Try.sizeOf4
  v4 := Try.zeroValue4
  t9 := Try.underlying9
  a9 := Try.isAgg9
  z9 := Try.sizeOf9
  v9 := Try.zeroValue9
  t31 := Try.underlying41
  a31 := Try.isAgg41
  z31 := Try.sizeOf41
  v31 := Try.zeroValue41 }
theorem F75_ok {x0 r : List ByteArray} {e0 : Nat} (h : compI x0 = some r) : CallD Try.prog 75 [.c (.own 0 e0 0 x0.length none)] [some (.arr e0 1 (x0.map eS))] (tupV [.c (.own 0 (e0 + 1) 0 r.length none)]) [some (.arr (e0 + 1) 1 (r.map eS))] := L_comp (ρ := Try.laysComp_ren) Try.laysComp rfl (by kernel_rfl) h

/- (*orchestrator/label.parser).list -/
def F61_l4 (b0 : Parser) : Nat → ((List ByteArray)) → (List ByteArray) → Option (((List ByteArray)) × (List ByteArray))
  | 0, _, _ => none
  | k + 1, o4_0, o4_1 => (F41 ((⟨#[44]⟩ : ByteArray)) ((⟨o4_0, b0.failed⟩ : Parser))).bind fun t5 => (if t5.2 = true then (F60 ((⟨t5.1, b0.failed⟩ : Parser))).bind fun t7 => (apI o4_1 ([t7.2])).bind fun a8 => F61_l4 b0 k t7.1 a8 else some ((t5.1, o4_1)))
def F61 (b0 : Parser) : Option (Parser × (List ByteArray)) := (F41 ((⟨#[40]⟩ : ByteArray)) b0).bind fun t1 => (if (nb t1.2) = true then some (((⟨t1.1, true⟩ : Parser), [])) else (F60 ((⟨t1.1, b0.failed⟩ : Parser))).bind fun t3 => ((F61_l4 b0 1099511627776 t3.1 ([t3.2])).bind fun o4 => (((F41 ((⟨#[41]⟩ : ByteArray)) ((⟨o4.1, b0.failed⟩ : Parser))).bind fun t10 => (if (nb t10.2) = true then some ((⟨t10.1, true⟩ : Parser)) else some ((⟨t10.1, b0.failed⟩ : Parser)))).bind fun o9 => (sortI o4.2).bind fun t12 => (compI t12).bind fun t13 => some (((⟨(o9).tokens, (o9).failed⟩ : Parser), t13)))))
def a61 : AFn := ⟨30, [(.tmp 2)],
 (.seq (.reg [⟨(some 2), none, .mv kN, [], (.new [])⟩])
 (.seq (.seq (.reg [⟨(some 4), none, .mv (.t 0), [], (.new [])⟩,
   ⟨(some 5), none, .call 41 [(.t 4), (kS ⟨#[40]⟩)], [], (.new [])⟩,
   ⟨(some 6), none, .not (.t 5), [], (.new [])⟩])
 (.cond (.t 6)
 (.seq (.reg [⟨(some 7), none, .mv (.t 0), [], (.new [])⟩,
   ⟨(some 8), none, .fieldA 0 (.t 7), [], (.new [])⟩,
   ⟨(some 9), none, .fieldA 1 (.t 8), [], (.new [])⟩,
   ⟨none, none, .store 1 (.t 9) (kB true), [], (.lone [7, 8])⟩])
 (.seq (.reg [⟨(some 2), none, .mv kN, [], (.new [])⟩])
 .ret))
 .skip))
 (.seq (.reg [⟨(some 10), none, .mv (.t 0), [], (.new [])⟩,
   ⟨(some 11), none, .call 60 [(.t 10)], [], (.new [])⟩,
   ⟨(some 12), none, .bslice 1 [(.t 11)], [], (.new [])⟩,
   ⟨(some 3), none, .mv (.t 12), [], (.new [])⟩])
 (.seq (.sem (.block 0 (.loop (.seq (.seq (.reg [⟨(some 13), none, .mv (.t 0), [], (.new [])⟩,
   ⟨(some 14), none, .call 41 [(.t 13), (kS ⟨#[44]⟩)], [], (.lone [])⟩])
 (.cond (.t 14)
 .skip
 (.exit 0)))
 (.block 1 (.reg [⟨(some 15), none, .mv (.t 3), [], (.new [])⟩,
   ⟨(some 16), none, .mv (.t 0), [], (.new [])⟩,
   ⟨(some 17), none, .call 60 [(.t 16)], [], (.new [])⟩,
   ⟨(some 18), none, .bslice 1 [(.t 17)], [], (.new [])⟩,
   ⟨(some 19), none, .app 1 16 (.t 15) (.t 18), [], (.new [])⟩,
   ⟨(some 3), none, .mv (.t 19), [], (.new [])⟩]))))))
 (.seq (.sem (.seq (.reg [⟨(some 20), none, .mv (.t 0), [], (.new [])⟩,
   ⟨(some 21), none, .call 41 [(.t 20), (kS ⟨#[41]⟩)], [], (.new [])⟩,
   ⟨(some 22), none, .not (.t 21), [], (.new [])⟩])
 (.cond (.t 22)
 (.reg [⟨(some 23), none, .mv (.t 0), [], (.new [])⟩,
   ⟨(some 24), none, .fieldA 0 (.t 23), [], (.new [])⟩,
   ⟨(some 25), none, .fieldA 1 (.t 24), [], (.new [])⟩,
   ⟨none, none, .store 1 (.t 25) (kB true), [], (.lone [23, 24])⟩])
 .skip)))
 (.seq (.reg [⟨(some 26), none, .mv (.t 3), [], (.new [])⟩,
   ⟨(some 27), none, .call 74 [(.t 26)], [], (.lone [])⟩])
 (.seq (.reg [⟨(some 28), none, .mv (.t 3), [], (.new [])⟩,
   ⟨(some 29), none, .call 75 [(.t 28)], [], (.new [])⟩,
   ⟨(some 2), none, .mv (.t 29), [], (.new [])⟩])
 .ret)))))))⟩
theorem a61_ok : afn Try.prog 61 = some a61.er := by kernel_rfl
theorem F61_ok {b0 : Parser} {r : Parser × (List ByteArray)} (h : F61 b0 = some r) : CallD Try.prog 61 [.c (.pt 0 0)] [some (.box [.d (.sl (b0.tokens.map eS)), .d (.v (.bool b0.failed))])] (tupV [.c (.own 1 0 0 (r.2.length) none)]) [some (.box [.d (.sl (((r.1).tokens).map eS)), .d (.v (.bool ((r.1).failed)))]), some (.arr 0 1 (r.2.map eS))] := by
  refine callS a61_ok (by simp [a61]) ?_
  rw [F61] at h
  simp only [a61, VW.down, Nat.reduceEqDiff, reduceCtorEq, Nat.reduceAdd, Nat.reduceLeDiff, Nat.reduceLT, Nat.reduceBEq, Nat.reduceSub, EE.down]
  obtain ⟨t1, ht1, h⟩ := Option.bind_eq_some_iff.1 h
  refine callX_n [0] (F41_ok ht1) ?_ ?_ ?_ ?_ ?_ ?_
  · first | rfl | simp [nrmA, nrmC, nrm, A1.ren, C.ren, rn, List.length_set]
  · simp [liveAll, A1.live, C.live, hp]
  · rfl
  · decide
  · exact ⟨⟨rfl, by simp [Blk.live, C.live, hp]⟩, trivial⟩
  simp only [VW.down, Nat.reduceEqDiff, reduceCtorEq, Nat.reduceAdd, Nat.reduceLeDiff, Nat.reduceLT, Nat.reduceBEq, Nat.reduceSub, EE.down]
  refine condB (fun c2 => ?_) (fun c2 => ?_)
  · have h := (if_pos c2).symm.trans h
    simp only [VW.down, Nat.reduceEqDiff, reduceCtorEq, Nat.reduceAdd, Nat.reduceLeDiff, Nat.reduceLT, Nat.reduceBEq, Nat.reduceSub, EE.down]
    obtain rfl := Option.some.inj h
    exact eF [some 0, none]
  · have h := (if_neg c2).symm.trans h
    simp only [VW.down, Nat.reduceEqDiff, reduceCtorEq, Nat.reduceAdd, Nat.reduceLeDiff, Nat.reduceLT, Nat.reduceBEq, Nat.reduceSub, EE.down]
    obtain ⟨t3, ht3, h⟩ := Option.bind_eq_some_iff.1 h
    refine callX_n [0] (F60_ok ht3) ?_ ?_ ?_ ?_ ?_ ?_
    · first | rfl | simp [nrmA, nrmC, nrm, A1.ren, C.ren, rn, List.length_set]
    · simp [liveAll, A1.live, C.live, hp]
    · rfl
    · decide
    · exact ⟨⟨rfl, by simp [Blk.live, C.live, hp]⟩, trivial⟩
    simp only [VW.down, Nat.reduceEqDiff, reduceCtorEq, Nat.reduceAdd, Nat.reduceLeDiff, Nat.reduceLT, Nat.reduceBEq, Nat.reduceSub, EE.down]
    refine t_bslice (enc := eS) (ys := [t3.2]) rfl rfl (by simp [A1.cells]) (by first | rfl | (simp only [List.drop_zero, take_mapL]; rfl)) ?_
    simp only [VW.down, Nat.reduceEqDiff, reduceCtorEq, Nat.reduceAdd, Nat.reduceLeDiff, Nat.reduceLT, Nat.reduceBEq, Nat.reduceSub, EE.down]
    obtain ⟨o4, ho, h⟩ := Option.bind_eq_some_iff.1 h
    refine cutS (fun s => s = ⟨[(0, .one (.c (.pt 0 0))), (3, .one (.c (.own 1 0 0 (o4.2.length) none)))], [some (.box [.d (.sl (o4.1.map eS)), .d (.v (.bool b0.failed))]), some (.arr 0 1 (o4.2.map eS))]⟩) ?_ ?_
    · have h := ho
      clear ho
      simp only [VW.down, Nat.reduceEqDiff, reduceCtorEq, Nat.reduceAdd, Nat.reduceLeDiff, Nat.reduceLT, Nat.reduceBEq, Nat.reduceSub, EE.down]
      refine bL (fun j s => ∃ (o4_0 : (List ByteArray)) (o4_1 : List ByteArray), s = ⟨[(0, .one (.c (.pt 0 0))), (3, .one (.c (.own 1 0 0 (o4_1.length) none)))], [some (.box [.d (.sl (o4_0.map eS)), .d (.v (.bool b0.failed))]), some (.arr 0 1 (o4_1.map eS))]⟩ ∧ F61_l4 b0 j o4_0 o4_1 = some o4) 1099511627776 [some 0, some 1] ⟨t3.1, [t3.2], rfl, h⟩ ?_
      rintro j _ ⟨o4_0, o4_1, rfl, h⟩
      cases j with
      | zero => cases (show (none : Option _) = some _ from h)
      | succ j =>
        rw [F61_l4] at h
        simp only [VW.down, Nat.reduceEqDiff, reduceCtorEq, Nat.reduceAdd, Nat.reduceLeDiff, Nat.reduceLT, Nat.reduceBEq, Nat.reduceSub, EE.down]
        obtain ⟨t5, ht5, h⟩ := Option.bind_eq_some_iff.1 h
        refine callX_n [0] (F41_ok ht5) ?_ ?_ ?_ ?_ ?_ ?_
        · first | rfl | simp [nrmA, nrmC, nrm, A1.ren, C.ren, rn, List.length_set]
        · simp [liveAll, A1.live, C.live, hp]
        · rfl
        · decide
        · exact ⟨⟨rfl, by simp [Blk.live, C.live, hp]⟩, trivial⟩
        simp only [VW.down, Nat.reduceEqDiff, reduceCtorEq, Nat.reduceAdd, Nat.reduceLeDiff, Nat.reduceLT, Nat.reduceBEq, Nat.reduceSub, EE.down]
        refine condB (fun c6 => ?_) (fun c6 => ?_)
        · have h := (if_pos c6).symm.trans h
          simp only [VW.down, Nat.reduceEqDiff, reduceCtorEq, Nat.reduceAdd, Nat.reduceLeDiff, Nat.reduceLT, Nat.reduceBEq, Nat.reduceSub, EE.down]
          obtain ⟨t7, ht7, h⟩ := Option.bind_eq_some_iff.1 h
          refine callX_n [0] (F60_ok ht7) ?_ ?_ ?_ ?_ ?_ ?_
          · first | rfl | simp [nrmA, nrmC, nrm, A1.ren, C.ren, rn, List.length_set]
          · simp [liveAll, A1.live, C.live, hp]
          · rfl
          · decide
          · exact ⟨⟨rfl, by simp [Blk.live, C.live, hp]⟩, trivial⟩
          simp only [VW.down, Nat.reduceEqDiff, reduceCtorEq, Nat.reduceAdd, Nat.reduceLeDiff, Nat.reduceLT, Nat.reduceBEq, Nat.reduceSub, EE.down]
          refine t_bslice (enc := eS) (ys := [t7.2]) rfl rfl (by simp [A1.cells]) (by first | rfl | (simp only [List.drop_zero, take_mapL]; rfl)) ?_
          simp only [VW.down, Nat.reduceEqDiff, reduceCtorEq, Nat.reduceAdd, Nat.reduceLeDiff, Nat.reduceLT, Nat.reduceBEq, Nat.reduceSub, EE.down]
          obtain ⟨a8, ha8, h⟩ := Option.bind_eq_some_iff.1 h
          refine t_app (enc := eS) (xs := o4_1) rfl rfl (by first | rfl | simp only [List.length_set] | exact (clrL_len (slI_len (by assumption))).symm) rfl (rows_full (enc := eS) (by first | rfl | simp only [List.length_set] | exact (clrL_len (slI_len (by assumption))).symm) rfl) ha8 ?_
          simp only [VW.down, Nat.reduceEqDiff, reduceCtorEq, Nat.reduceAdd, Nat.reduceLeDiff, Nat.reduceLT, Nat.reduceBEq, Nat.reduceSub, EE.down]
          exact eL' j [some 0, some 1] ⟨t7.1, a8, rfl, h⟩ (Nat.lt_succ_self _)
        · have h := (if_neg c6).symm.trans h
          simp only [VW.down, Nat.reduceEqDiff, reduceCtorEq, Nat.reduceAdd, Nat.reduceLeDiff, Nat.reduceLT, Nat.reduceBEq, Nat.reduceSub, EE.down]
          obtain rfl := Option.some.inj h
          exact eM [some 0, some 1] rfl
    · rintro _ rfl
      clear ho
      simp only [VW.down, Nat.reduceEqDiff, reduceCtorEq, Nat.reduceAdd, Nat.reduceLeDiff, Nat.reduceLT, Nat.reduceBEq, Nat.reduceSub, EE.down]
      obtain ⟨o9, ho, h⟩ := Option.bind_eq_some_iff.1 h
      refine cutS (fun s => s = ⟨[(3, .one (.c (.own 1 0 0 (o4.2.length) none)))], [some (.box [.d (.sl (((o9).tokens).map eS)), .d (.v (.bool ((o9).failed)))]), some (.arr 0 1 (o4.2.map eS))]⟩) ?_ ?_
      · have h := ho
        clear ho
        simp only [VW.down, Nat.reduceEqDiff, reduceCtorEq, Nat.reduceAdd, Nat.reduceLeDiff, Nat.reduceLT, Nat.reduceBEq, Nat.reduceSub, EE.down]
        obtain ⟨t10, ht10, h⟩ := Option.bind_eq_some_iff.1 h
        refine callX_n [0] (F41_ok ht10) ?_ ?_ ?_ ?_ ?_ ?_
        · first | rfl | simp [nrmA, nrmC, nrm, A1.ren, C.ren, rn, List.length_set]
        · simp [liveAll, A1.live, C.live, hp]
        · rfl
        · decide
        · exact ⟨⟨rfl, by simp [Blk.live, C.live, hp]⟩, trivial⟩
        simp only [VW.down, Nat.reduceEqDiff, reduceCtorEq, Nat.reduceAdd, Nat.reduceLeDiff, Nat.reduceLT, Nat.reduceBEq, Nat.reduceSub, EE.down]
        refine condB (fun c11 => ?_) (fun c11 => ?_)
        · have h := (if_pos c11).symm.trans h
          simp only [VW.down, Nat.reduceEqDiff, reduceCtorEq, Nat.reduceAdd, Nat.reduceLeDiff, Nat.reduceLT, Nat.reduceBEq, Nat.reduceSub, EE.down]
          obtain rfl := Option.some.inj h
          exact eM [some 0, some 1] rfl
        · have h := (if_neg c11).symm.trans h
          simp only [VW.down, Nat.reduceEqDiff, reduceCtorEq, Nat.reduceAdd, Nat.reduceLeDiff, Nat.reduceLT, Nat.reduceBEq, Nat.reduceSub, EE.down]
          obtain rfl := Option.some.inj h
          exact eM [some 0, some 1] rfl
      · rintro _ rfl
        clear ho
        simp only [VW.down, Nat.reduceEqDiff, reduceCtorEq, Nat.reduceAdd, Nat.reduceLeDiff, Nat.reduceLT, Nat.reduceBEq, Nat.reduceSub, EE.down]
        obtain ⟨t12, ht12, h⟩ := Option.bind_eq_some_iff.1 h
        refine callX_n [1] (F74_ok (e0 := 0) ht12) ?_ ?_ ?_ ?_ ?_ ?_
        · first | rfl | simp [nrmA, nrmC, nrm, A1.ren, C.ren, rn, List.length_set]
        · simp [liveAll, A1.live, C.live, hp]
        · rfl
        · decide
        · exact ⟨⟨rfl, trivial⟩, trivial⟩
        try rw [← sortI_len ht12]
        simp only [VW.down, Nat.reduceEqDiff, reduceCtorEq, Nat.reduceAdd, Nat.reduceLeDiff, Nat.reduceLT, Nat.reduceBEq, Nat.reduceSub, EE.down]
        obtain ⟨t13, ht13, h⟩ := Option.bind_eq_some_iff.1 h
        refine callX_n [1] (F75_ok (e0 := 0) ht13) ?_ ?_ ?_ ?_ ?_ ?_
        · first | rfl | simp [nrmA, nrmC, nrm, A1.ren, C.ren, rn, List.length_set]
        · simp [liveAll, A1.live, C.live, hp]
        · rfl
        · decide
        · exact ⟨⟨rfl, trivial⟩, trivial⟩
        simp only [VW.down, Nat.reduceEqDiff, reduceCtorEq, Nat.reduceAdd, Nat.reduceLeDiff, Nat.reduceLT, Nat.reduceBEq, Nat.reduceSub, EE.down]
        obtain rfl := Option.some.inj h
        exact eF [some 0, some 1]

/- (*orchestrator/label.parser).requirement -/
def F42 (b0 : Parser) : Option (Parser × ByteArray × Int × (List ByteArray)) := (F41 ((⟨#[33]⟩ : ByteArray)) b0).bind fun t1 => (F60 ((⟨t1.1, b0.failed⟩ : Parser))).bind fun t2 => (if t2.2 = (⟨#[]⟩ : ByteArray) then some (((⟨t2.1, true⟩ : Parser), t2.2, 3, [])) else (if t1.2 = true then some (((⟨t2.1, b0.failed⟩ : Parser), t2.2, 4, [])) else (F41 ((⟨#[61]⟩ : ByteArray)) ((⟨t2.1, b0.failed⟩ : Parser))).bind fun t5 => (if t5.2 = true then (F60 ((⟨t5.1, b0.failed⟩ : Parser))).bind fun t7 => some (((⟨t7.1, b0.failed⟩ : Parser), t2.2, 1, [t7.2])) else (F41 ((⟨#[33, 61]⟩ : ByteArray)) ((⟨t5.1, b0.failed⟩ : Parser))).bind fun t8 => (if t8.2 = true then (F60 ((⟨t8.1, b0.failed⟩ : Parser))).bind fun t10 => some (((⟨t10.1, b0.failed⟩ : Parser), t2.2, 2, [t10.2])) else (F41 ((⟨#[105, 110]⟩ : ByteArray)) ((⟨t8.1, b0.failed⟩ : Parser))).bind fun t11 => (if t11.2 = true then (F61 ((⟨t11.1, b0.failed⟩ : Parser))).bind fun t13 => some (((⟨(t13.1).tokens, (t13.1).failed⟩ : Parser), t2.2, 1, t13.2)) else (F41 ((⟨#[110, 111, 116, 105, 110]⟩ : ByteArray)) ((⟨t11.1, b0.failed⟩ : Parser))).bind fun t14 => (if t14.2 = true then (F61 ((⟨t14.1, b0.failed⟩ : Parser))).bind fun t16 => some (((⟨(t16.1).tokens, (t16.1).failed⟩ : Parser), t2.2, 2, t16.2)) else some (((⟨t14.1, b0.failed⟩ : Parser), t2.2, 3, []))))))))
def a42 : AFn := ⟨51, [(.cell 2 (some 3))],
 (.seq (.reg [⟨(some 2), none, .zbox [.d (.v (.string ⟨#[]⟩)), .d (.v (.int .i64 0)), .d (.v (.slice none 0 0))], [], (.lone [])⟩])
 (.seq (.reg [⟨(some 5), none, .mv (.t 0), [], (.new [])⟩,
   ⟨(some 6), none, .call 41 [(.t 5), (kS ⟨#[33]⟩)], [], (.new [])⟩,
   ⟨(some 3), none, .mv (.t 6), [], (.new [])⟩])
 (.seq (.reg [⟨(some 7), none, .mv (.t 0), [], (.new [])⟩,
   ⟨(some 8), none, .call 60 [(.t 7)], [], (.new [])⟩,
   ⟨(some 9), none, .build [.d (.v (.string ⟨#[]⟩)), .d (.v (.int .i64 0)), .d (.v (.slice none 0 0))] [(0, 1, (.t 8)), (1, 1, (kI 3))], [], (.new [])⟩,
   ⟨(some 4), none, .zbox [.d (.v (.string ⟨#[]⟩)), .d (.v (.int .i64 0)), .d (.v (.slice none 0 0))], [], (.new [])⟩,
   ⟨none, none, .store 3 (.t 4) (.t 9), [], (.new [])⟩])
 (.seq (.block 0 (.seq (.reg [⟨(some 11), none, .fieldA 0 (.t 4), [], (.new [])⟩,
   ⟨(some 12), none, .load none (.t 11), [], (.new [])⟩,
   ⟨(some 13), none, .bin .eql (.t 12) (kS ⟨#[]⟩), [], (.new [])⟩,
   ⟨(some 10), none, .mv (.t 13), [], (.new [])⟩])
 (.cond (.t 10)
 (.reg [⟨(some 14), none, .mv (.t 0), [], (.new [])⟩,
   ⟨(some 15), none, .fieldA 0 (.t 14), [], (.new [])⟩,
   ⟨(some 16), none, .fieldA 1 (.t 15), [], (.new [])⟩,
   ⟨none, none, .store 1 (.t 16) (kB true), [], (.lone [14, 15])⟩])
 (.seq (.reg [⟨(some 18), none, .mv (.t 3), [], (.new [])⟩,
   ⟨(some 17), none, .mv (.t 18), [], (.new [])⟩])
 (.cond (.t 17)
 (.reg [⟨(some 19), none, .fieldA 1 (.t 4), [], (.new [])⟩,
   ⟨none, none, .store 1 (.t 19) (kI 4), [], (.lone [4])⟩])
 (.seq (.reg [⟨(some 21), none, .mv (.t 0), [], (.new [])⟩,
   ⟨(some 22), none, .call 41 [(.t 21), (kS ⟨#[61]⟩)], [], (.new [])⟩,
   ⟨(some 20), none, .mv (.t 22), [], (.new [])⟩])
 (.cond (.t 20)
 (.reg [⟨(some 23), none, .mv (.t 0), [], (.new [])⟩,
   ⟨(some 24), none, .call 60 [(.t 23)], [], (.new [])⟩,
   ⟨(some 25), none, .bslice 1 [(.t 24)], [], (.new [])⟩,
   ⟨(some 26), none, .fieldA 1 (.t 4), [], (.new [])⟩,
   ⟨none, none, .store 1 (.t 26) (kI 1), [], (.new [])⟩,
   ⟨(some 27), none, .fieldA 2 (.t 4), [], (.new [])⟩,
   ⟨none, none, .store 1 (.t 27) (.t 25), [], (.new [])⟩])
 (.seq (.reg [⟨(some 29), none, .mv (.t 0), [], (.new [])⟩,
   ⟨(some 30), none, .call 41 [(.t 29), (kS ⟨#[33, 61]⟩)], [], (.new [])⟩,
   ⟨(some 28), none, .mv (.t 30), [], (.new [])⟩])
 (.cond (.t 28)
 (.reg [⟨(some 31), none, .mv (.t 0), [], (.new [])⟩,
   ⟨(some 32), none, .call 60 [(.t 31)], [], (.new [])⟩,
   ⟨(some 33), none, .bslice 1 [(.t 32)], [], (.new [])⟩,
   ⟨(some 34), none, .fieldA 1 (.t 4), [], (.new [])⟩,
   ⟨none, none, .store 1 (.t 34) (kI 2), [], (.new [])⟩,
   ⟨(some 35), none, .fieldA 2 (.t 4), [], (.new [])⟩,
   ⟨none, none, .store 1 (.t 35) (.t 33), [], (.new [])⟩])
 (.seq (.reg [⟨(some 37), none, .mv (.t 0), [], (.new [])⟩,
   ⟨(some 38), none, .call 41 [(.t 37), (kS ⟨#[105, 110]⟩)], [], (.new [])⟩,
   ⟨(some 36), none, .mv (.t 38), [], (.new [])⟩])
 (.cond (.t 36)
 (.reg [⟨(some 39), none, .mv (.t 0), [], (.new [])⟩,
   ⟨(some 40), none, .call 61 [(.t 39)], [], (.new [])⟩,
   ⟨(some 41), none, .fieldA 1 (.t 4), [], (.new [])⟩,
   ⟨none, none, .store 1 (.t 41) (kI 1), [], (.new [])⟩,
   ⟨(some 42), none, .fieldA 2 (.t 4), [], (.new [])⟩,
   ⟨none, none, .store 1 (.t 42) (.t 40), [], (.new [])⟩])
 (.seq (.reg [⟨(some 44), none, .mv (.t 0), [], (.new [])⟩,
   ⟨(some 45), none, .call 41 [(.t 44), (kS ⟨#[110, 111, 116, 105, 110]⟩)], [], (.new [])⟩,
   ⟨(some 43), none, .mv (.t 45), [], (.new [])⟩])
 (.cond (.t 43)
 (.reg [⟨(some 46), none, .mv (.t 0), [], (.new [])⟩,
   ⟨(some 47), none, .call 61 [(.t 46)], [], (.new [])⟩,
   ⟨(some 48), none, .fieldA 1 (.t 4), [], (.new [])⟩,
   ⟨none, none, .store 1 (.t 48) (kI 2), [], (.new [])⟩,
   ⟨(some 49), none, .fieldA 2 (.t 4), [], (.new [])⟩,
   ⟨none, none, .store 1 (.t 49) (.t 47), [], (.new [])⟩])
 .skip)))))))))))))
 (.seq (.reg [⟨(some 50), none, .load (some 3) (.t 4), [], (.new [])⟩,
   ⟨none, none, .store 3 (.t 2) (.t 50), [], (.lone [4])⟩])
 .ret)))))⟩
theorem a42_ok : afn Try.prog 42 = some a42.er := by kernel_rfl
theorem F42_ok {b0 : Parser} {r : Parser × ByteArray × Int × (List ByteArray)} (h : F42 b0 = some r) : CallD Try.prog 42 [.c (.pt 0 0)] [some (.box [.d (.sl (b0.tokens.map eS)), .d (.v (.bool b0.failed))])] (tupV [.agg [.d (.v (.string r.2.1)), .d (.v (.int .i64 r.2.2.1)), .own 1 0 0 (r.2.2.2.length) none]]) [some (.box [.d (.sl (((r.1).tokens).map eS)), .d (.v (.bool ((r.1).failed)))]), some (.arr 0 1 (r.2.2.2.map eS))] := by
  refine callS a42_ok (by simp [a42]) ?_
  rw [F42] at h
  simp only [a42, VW.down, Nat.reduceEqDiff, reduceCtorEq, Nat.reduceAdd, Nat.reduceLeDiff, Nat.reduceLT, Nat.reduceBEq, Nat.reduceSub, EE.down]
  obtain ⟨t1, ht1, h⟩ := Option.bind_eq_some_iff.1 h
  refine callX_n [0] (F41_ok ht1) ?_ ?_ ?_ ?_ ?_ ?_
  · first | rfl | simp [nrmA, nrmC, nrm, A1.ren, C.ren, rn, List.length_set]
  · simp [liveAll, A1.live, C.live, hp]
  · rfl
  · decide
  · exact ⟨⟨rfl, by simp [Blk.live, C.live, hp]⟩, trivial⟩
  simp only [VW.down, Nat.reduceEqDiff, reduceCtorEq, Nat.reduceAdd, Nat.reduceLeDiff, Nat.reduceLT, Nat.reduceBEq, Nat.reduceSub, EE.down]
  obtain ⟨t2, ht2, h⟩ := Option.bind_eq_some_iff.1 h
  refine callX_n [0] (F60_ok ht2) ?_ ?_ ?_ ?_ ?_ ?_
  · first | rfl | simp [nrmA, nrmC, nrm, A1.ren, C.ren, rn, List.length_set]
  · simp [liveAll, A1.live, C.live, hp]
  · rfl
  · decide
  · exact ⟨⟨rfl, by simp [Blk.live, C.live, hp]⟩, trivial⟩
  simp only [VW.down, Nat.reduceEqDiff, reduceCtorEq, Nat.reduceAdd, Nat.reduceLeDiff, Nat.reduceLT, Nat.reduceBEq, Nat.reduceSub, EE.down]
  refine condS (fun c3 => ?_) (fun c3 => ?_)
  · have h := (if_pos c3).symm.trans h
    simp only [VW.down, Nat.reduceEqDiff, reduceCtorEq, Nat.reduceAdd, Nat.reduceLeDiff, Nat.reduceLT, Nat.reduceBEq, Nat.reduceSub, EE.down]
    obtain rfl := Option.some.inj h
    exact eF [some 0, none]
  · have h := (if_neg c3).symm.trans h
    simp only [VW.down, Nat.reduceEqDiff, reduceCtorEq, Nat.reduceAdd, Nat.reduceLeDiff, Nat.reduceLT, Nat.reduceBEq, Nat.reduceSub, EE.down]
    refine condB (fun c4 => ?_) (fun c4 => ?_)
    · have h := (if_pos c4).symm.trans h
      simp only [VW.down, Nat.reduceEqDiff, reduceCtorEq, Nat.reduceAdd, Nat.reduceLeDiff, Nat.reduceLT, Nat.reduceBEq, Nat.reduceSub, EE.down]
      obtain rfl := Option.some.inj h
      exact eF [some 0, none]
    · have h := (if_neg c4).symm.trans h
      simp only [VW.down, Nat.reduceEqDiff, reduceCtorEq, Nat.reduceAdd, Nat.reduceLeDiff, Nat.reduceLT, Nat.reduceBEq, Nat.reduceSub, EE.down]
      obtain ⟨t5, ht5, h⟩ := Option.bind_eq_some_iff.1 h
      refine callX_n [0] (F41_ok ht5) ?_ ?_ ?_ ?_ ?_ ?_
      · first | rfl | simp [nrmA, nrmC, nrm, A1.ren, C.ren, rn, List.length_set]
      · simp [liveAll, A1.live, C.live, hp]
      · rfl
      · decide
      · exact ⟨⟨rfl, by simp [Blk.live, C.live, hp]⟩, trivial⟩
      simp only [VW.down, Nat.reduceEqDiff, reduceCtorEq, Nat.reduceAdd, Nat.reduceLeDiff, Nat.reduceLT, Nat.reduceBEq, Nat.reduceSub, EE.down]
      refine condB (fun c6 => ?_) (fun c6 => ?_)
      · have h := (if_pos c6).symm.trans h
        simp only [VW.down, Nat.reduceEqDiff, reduceCtorEq, Nat.reduceAdd, Nat.reduceLeDiff, Nat.reduceLT, Nat.reduceBEq, Nat.reduceSub, EE.down]
        obtain ⟨t7, ht7, h⟩ := Option.bind_eq_some_iff.1 h
        refine callX_n [0] (F60_ok ht7) ?_ ?_ ?_ ?_ ?_ ?_
        · first | rfl | simp [nrmA, nrmC, nrm, A1.ren, C.ren, rn, List.length_set]
        · simp [liveAll, A1.live, C.live, hp]
        · rfl
        · decide
        · exact ⟨⟨rfl, by simp [Blk.live, C.live, hp]⟩, trivial⟩
        simp only [VW.down, Nat.reduceEqDiff, reduceCtorEq, Nat.reduceAdd, Nat.reduceLeDiff, Nat.reduceLT, Nat.reduceBEq, Nat.reduceSub, EE.down]
        refine t_bslice (enc := eS) (ys := [t7.2]) rfl rfl (by simp [A1.cells]) (by first | rfl | (simp only [List.drop_zero, take_mapL]; rfl)) ?_
        simp only [VW.down, Nat.reduceEqDiff, reduceCtorEq, Nat.reduceAdd, Nat.reduceLeDiff, Nat.reduceLT, Nat.reduceBEq, Nat.reduceSub, EE.down]
        obtain rfl := Option.some.inj h
        exact eF [some 0, some 3]
      · have h := (if_neg c6).symm.trans h
        simp only [VW.down, Nat.reduceEqDiff, reduceCtorEq, Nat.reduceAdd, Nat.reduceLeDiff, Nat.reduceLT, Nat.reduceBEq, Nat.reduceSub, EE.down]
        obtain ⟨t8, ht8, h⟩ := Option.bind_eq_some_iff.1 h
        refine callX_n [0] (F41_ok ht8) ?_ ?_ ?_ ?_ ?_ ?_
        · first | rfl | simp [nrmA, nrmC, nrm, A1.ren, C.ren, rn, List.length_set]
        · simp [liveAll, A1.live, C.live, hp]
        · rfl
        · decide
        · exact ⟨⟨rfl, by simp [Blk.live, C.live, hp]⟩, trivial⟩
        simp only [VW.down, Nat.reduceEqDiff, reduceCtorEq, Nat.reduceAdd, Nat.reduceLeDiff, Nat.reduceLT, Nat.reduceBEq, Nat.reduceSub, EE.down]
        refine condB (fun c9 => ?_) (fun c9 => ?_)
        · have h := (if_pos c9).symm.trans h
          simp only [VW.down, Nat.reduceEqDiff, reduceCtorEq, Nat.reduceAdd, Nat.reduceLeDiff, Nat.reduceLT, Nat.reduceBEq, Nat.reduceSub, EE.down]
          obtain ⟨t10, ht10, h⟩ := Option.bind_eq_some_iff.1 h
          refine callX_n [0] (F60_ok ht10) ?_ ?_ ?_ ?_ ?_ ?_
          · first | rfl | simp [nrmA, nrmC, nrm, A1.ren, C.ren, rn, List.length_set]
          · simp [liveAll, A1.live, C.live, hp]
          · rfl
          · decide
          · exact ⟨⟨rfl, by simp [Blk.live, C.live, hp]⟩, trivial⟩
          simp only [VW.down, Nat.reduceEqDiff, reduceCtorEq, Nat.reduceAdd, Nat.reduceLeDiff, Nat.reduceLT, Nat.reduceBEq, Nat.reduceSub, EE.down]
          refine t_bslice (enc := eS) (ys := [t10.2]) rfl rfl (by simp [A1.cells]) (by first | rfl | (simp only [List.drop_zero, take_mapL]; rfl)) ?_
          simp only [VW.down, Nat.reduceEqDiff, reduceCtorEq, Nat.reduceAdd, Nat.reduceLeDiff, Nat.reduceLT, Nat.reduceBEq, Nat.reduceSub, EE.down]
          obtain rfl := Option.some.inj h
          exact eF [some 0, some 3]
        · have h := (if_neg c9).symm.trans h
          simp only [VW.down, Nat.reduceEqDiff, reduceCtorEq, Nat.reduceAdd, Nat.reduceLeDiff, Nat.reduceLT, Nat.reduceBEq, Nat.reduceSub, EE.down]
          obtain ⟨t11, ht11, h⟩ := Option.bind_eq_some_iff.1 h
          refine callX_n [0] (F41_ok ht11) ?_ ?_ ?_ ?_ ?_ ?_
          · first | rfl | simp [nrmA, nrmC, nrm, A1.ren, C.ren, rn, List.length_set]
          · simp [liveAll, A1.live, C.live, hp]
          · rfl
          · decide
          · exact ⟨⟨rfl, by simp [Blk.live, C.live, hp]⟩, trivial⟩
          simp only [VW.down, Nat.reduceEqDiff, reduceCtorEq, Nat.reduceAdd, Nat.reduceLeDiff, Nat.reduceLT, Nat.reduceBEq, Nat.reduceSub, EE.down]
          refine condB (fun c12 => ?_) (fun c12 => ?_)
          · have h := (if_pos c12).symm.trans h
            simp only [VW.down, Nat.reduceEqDiff, reduceCtorEq, Nat.reduceAdd, Nat.reduceLeDiff, Nat.reduceLT, Nat.reduceBEq, Nat.reduceSub, EE.down]
            obtain ⟨t13, ht13, h⟩ := Option.bind_eq_some_iff.1 h
            refine callX_n [0] (F61_ok ht13) ?_ ?_ ?_ ?_ ?_ ?_
            · first | rfl | simp [nrmA, nrmC, nrm, A1.ren, C.ren, rn, List.length_set]
            · simp [liveAll, A1.live, C.live, hp]
            · rfl
            · decide
            · exact ⟨⟨rfl, by simp [Blk.live, C.live, hp]⟩, trivial⟩
            simp only [VW.down, Nat.reduceEqDiff, reduceCtorEq, Nat.reduceAdd, Nat.reduceLeDiff, Nat.reduceLT, Nat.reduceBEq, Nat.reduceSub, EE.down]
            obtain rfl := Option.some.inj h
            exact eF [some 0, some 3]
          · have h := (if_neg c12).symm.trans h
            simp only [VW.down, Nat.reduceEqDiff, reduceCtorEq, Nat.reduceAdd, Nat.reduceLeDiff, Nat.reduceLT, Nat.reduceBEq, Nat.reduceSub, EE.down]
            obtain ⟨t14, ht14, h⟩ := Option.bind_eq_some_iff.1 h
            refine callX_n [0] (F41_ok ht14) ?_ ?_ ?_ ?_ ?_ ?_
            · first | rfl | simp [nrmA, nrmC, nrm, A1.ren, C.ren, rn, List.length_set]
            · simp [liveAll, A1.live, C.live, hp]
            · rfl
            · decide
            · exact ⟨⟨rfl, by simp [Blk.live, C.live, hp]⟩, trivial⟩
            simp only [VW.down, Nat.reduceEqDiff, reduceCtorEq, Nat.reduceAdd, Nat.reduceLeDiff, Nat.reduceLT, Nat.reduceBEq, Nat.reduceSub, EE.down]
            refine condB (fun c15 => ?_) (fun c15 => ?_)
            · have h := (if_pos c15).symm.trans h
              simp only [VW.down, Nat.reduceEqDiff, reduceCtorEq, Nat.reduceAdd, Nat.reduceLeDiff, Nat.reduceLT, Nat.reduceBEq, Nat.reduceSub, EE.down]
              obtain ⟨t16, ht16, h⟩ := Option.bind_eq_some_iff.1 h
              refine callX_n [0] (F61_ok ht16) ?_ ?_ ?_ ?_ ?_ ?_
              · first | rfl | simp [nrmA, nrmC, nrm, A1.ren, C.ren, rn, List.length_set]
              · simp [liveAll, A1.live, C.live, hp]
              · rfl
              · decide
              · exact ⟨⟨rfl, by simp [Blk.live, C.live, hp]⟩, trivial⟩
              simp only [VW.down, Nat.reduceEqDiff, reduceCtorEq, Nat.reduceAdd, Nat.reduceLeDiff, Nat.reduceLT, Nat.reduceBEq, Nat.reduceSub, EE.down]
              obtain rfl := Option.some.inj h
              exact eF [some 0, some 3]
            · have h := (if_neg c15).symm.trans h
              simp only [VW.down, Nat.reduceEqDiff, reduceCtorEq, Nat.reduceAdd, Nat.reduceLeDiff, Nat.reduceLT, Nat.reduceBEq, Nat.reduceSub, EE.down]
              obtain rfl := Option.some.inj h
              exact eF [some 0, none]
end Go.Proofs.Ytadhmlfnfgpjjaa
