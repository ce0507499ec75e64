/- Each Go function as a function over typed data, and its walk. -/
import Derived.Test.YtkgjaknjpdkaeaaFE
import Derived.Ground.NamesProg
import Derived.Shelf.Lay
import Derived.Ground.GgzProg
import Derived.RangeFuncBox
import Derived.RangeFuncLeaves
import Derived.WalkKit
import Derived.OwnWalkIn
import Derived.TacticsInMore
import Derived.LoopNIn
import Derived.LoopIn
import Derived.Shelf.SlGeneric
import Derived.KernelRfl
import Derived.Test.YtkgjaknjpdkaeaaProg
namespace Go.Proofs.Ytkgjaknjpdkaeaa
open Go Go.Fw Go.Shelf
set_option maxRecDepth 100000
set_option maxHeartbeats 4000000
set_option linter.unusedSimpArgs false
set_option linter.unusedVariables false
structure Expectation where
  Key : ByteArray
  Creates : Int
  Deletes : (List ByteArray)
  Since : Int
  deriving DecidableEq
def okExpectation (x : Expectation) : Prop := okT x.Key ∧ okN x.Creates ∧ (okL okT) x.Deletes ∧ okN x.Since ∧ True
def wExpectation (x : Expectation) : Nat := wS x.Key + (wN x.Creates + ((wL wS) x.Deletes + (wN x.Since + 0))) + 1
def eExpectation (x : Expectation) : List D := [.v (.string x.Key), .v (.int .i64 x.Creates), .sl (x.Deletes.map eS), .v (.int .i64 x.Since)]
def EE := PLift.up (And.intro (And.intro @eI.eq_1 (And.intro @eB.eq_1 @eS.eq_1)) (And.intro @eK.eq_1 (And.intro @eL.eq_1 @eExpectation.eq_1)))
theorem eM {n m : Nat} {Q : XT → St → Prop} {R : St → Prop} {s' : St} {sl : List (Nat × AV)} {H' : List (Option Blk)} (σ : Src) (hR : R ⟨sl, H'⟩) (hB : shBs s'.heap σ H' σ H' := by simp only [ZZ.down, Nat.reduceEqDiff, reduceCtorEq, Nat.reduceAdd, Nat.reduceLeDiff, Nat.reduceLT, Nat.reduceBNe, EE.down]) (hk : keepS 0 (s'.heap.take m) σ H' := by simp only [ZZ.down, Nat.reduceEqDiff, reduceCtorEq, Nat.reduceAdd, Nat.reduceLeDiff, Nat.reduceLT, Nat.reduceBNe, EE.down]) (hs : shSl s'.heap σ H' s'.slots sl := by simp only [ZZ.down, Nat.reduceEqDiff, reduceCtorEq, Nat.reduceAdd, Nat.reduceLeDiff, Nat.reduceLT, Nat.reduceBNe, EE.down]) (hn : nodupS σ = true := by rfl) : sM n m R Q .normal s' := endM σ ⟨hB, hn, hk⟩ hs hR
theorem eL' {n m : Nat} {Q : XT → St → Prop} {I : Nat → St → Prop} {j : Nat} (k' : Nat) {s' : St} {sl : List (Nat × AV)} {H' : List (Option Blk)} (σ : Src) (hI : I k' ⟨sl, H'⟩) (hj : k' < j) (hB : shBs s'.heap σ H' σ H' := by simp only [ZZ.down, Nat.reduceEqDiff, reduceCtorEq, Nat.reduceAdd, Nat.reduceLeDiff, Nat.reduceLT, Nat.reduceBNe, EE.down]) (hk : keepS 0 (s'.heap.take m) σ H' := by simp only [ZZ.down, Nat.reduceEqDiff, reduceCtorEq, Nat.reduceAdd, Nat.reduceLeDiff, Nat.reduceLT, Nat.reduceBNe, EE.down]) (hs : shSl s'.heap σ H' s'.slots sl := by simp only [ZZ.down, Nat.reduceEqDiff, reduceCtorEq, Nat.reduceAdd, Nat.reduceLeDiff, Nat.reduceLT, Nat.reduceBNe, EE.down]) (hn : nodupS σ = true := by rfl) : sL n m I j Q .normal s' := endL k' hj σ ⟨hB, hn, hk⟩ hs hI
theorem bL {P : Program} {n m : Nat} {Q : XT → St → Prop} {s : St} {k : List Frm} {body : AC} (I : Nat → St → Prop) (k0 : Nat) {sl : List (Nat × AV)} {H' : List (Option Blk)} (σ : Src) (hI : I k0 ⟨sl, H'⟩) (hr : ∀ j s, I j s → sK P n m body [] (sL n m I j (sU P n m k Q)) s) (hB : shBs s.heap σ H' σ H' := by simp only [ZZ.down, Nat.reduceEqDiff, reduceCtorEq, Nat.reduceAdd, Nat.reduceLeDiff, Nat.reduceLT, Nat.reduceBNe, EE.down]) (hk : keepS 0 (s.heap.take m) σ H' := by simp only [ZZ.down, Nat.reduceEqDiff, reduceCtorEq, Nat.reduceAdd, Nat.reduceLeDiff, Nat.reduceLT, Nat.reduceBNe, EE.down]) (hs : shSl s.heap σ H' s.slots sl := by simp only [ZZ.down, Nat.reduceEqDiff, reduceCtorEq, Nat.reduceAdd, Nat.reduceLeDiff, Nat.reduceLT, Nat.reduceBNe, EE.down]) (hn : nodupS σ = true := by rfl) : WpC P n m (.loop body) (sU P n m k Q) s := begL I k0 σ ⟨hB, hn, hk⟩ hs hI hr
theorem eF {m : Nat} {h : List (Option Blk)} {l res : List A1} {H' : List (Option Blk)} (σ : Src) (hB : shBs h σ H' σ H' := by simp only [ZZ.down, Nat.reduceEqDiff, reduceCtorEq, Nat.reduceAdd, Nat.reduceLeDiff, Nat.reduceLT, Nat.reduceBNe, EE.down]) (hk : keepS 0 (h.take m) σ H' := by simp only [ZZ.down, Nat.reduceEqDiff, reduceCtorEq, Nat.reduceAdd, Nat.reduceLeDiff, Nat.reduceLT, Nat.reduceBNe, EE.down]) (hs : shAs h σ H' res l := by simp only [ZZ.down, Nat.reduceEqDiff, reduceCtorEq, Nat.reduceAdd, Nat.reduceLeDiff, Nat.reduceLT, Nat.reduceBNe, EE.down]) (hn : nodupS σ = true := by rfl) : Fin m h l res H' := fin_sh σ ⟨hB, hn, hk⟩ hs


/- orchestrator/orchestratorref32.Valid -/
def F20_l18 (xo1 : Expectation) : Nat → Int → Option (((Bool) ⊕ (Unit)) ⊕ (Unit))
  | 0, _ => none
  | k + 1, o18_0 => (if o18_0 < (xo1.Deletes.length : Int) then (rdI xo1.Deletes ((IntKind.i64.wrap (o18_0 - 1)))).bind fun y20 => (rdI xo1.Deletes o18_0).bind fun y21 => (if (nb (Op.bytesLess y20.toList y21.toList)) = true then ((some false).map Sum.inl).map Sum.inl else F20_l18 xo1 k ((IntKind.i64.wrap (o18_0 + 1)))) else some (Sum.inr (())))
def F20_l1 (x0 : (List Expectation)) : List Expectation → Nat → Option ((Bool) ⊕ (Unit))
  | [], o1_0 => some (Sum.inr (()))
  | xo1 :: xs, o1_0 => (((if 0 < (o1_0 : Int) then (rdI x0 ((IntKind.i64.wrap (((o1_0 : Int)) - 1)))).bind fun y5 => (if (nb (Op.bytesLess y5.Key.toList xo1.Key.toList)) = true then some true else (if xo1.Creates < 0 then some true else (if 1000000000000000 < xo1.Creates then some true else (if xo1.Since < 0 then some true else (if 1000000000000 < xo1.Since then some true else (if xo1.Creates = 0 then some (decide ((xo1.Deletes.length : Int) = 0)) else some false)))))) else (if xo1.Creates < 0 then some true else (if 1000000000000000 < xo1.Creates then some true else (if xo1.Since < 0 then some true else (if 1000000000000 < xo1.Since then some true else (if xo1.Creates = 0 then some (decide ((xo1.Deletes.length : Int) = 0)) else some false))))))).bind fun o3 => (if o3 = true then (some false).map Sum.inl else ((F20_l18 xo1 1099511627776 1).bind fun o18 => match o18 with | Sum.inl f => some f | Sum.inr po18 => F20_l1 x0 xs (o1_0 + 1))))
def F20 (x0 : (List Expectation)) : Option (Bool) := (((ck (0 ≤ x0.length ∧ x0.length ≤ 4294967290)).bind fun u23 => F20_l1 x0 x0 0).bind fun o1 => match o1 with | Sum.inl f => some f | Sum.inr po1 => some true)
def a20 : AFn := ⟨79, [(.tmp 2)],
 (.seq (.reg [⟨(some 2), none, .mv (kB false), [], (.new [])⟩])
 (.seq (.seq (.reg [⟨(some 3), none, .mv (kI 0), [], (.new [])⟩])
 (.sem (.block 0 (.loop (.seq (.seq (.reg [⟨(some 6), none, .mv (.t 3), [], (.new [])⟩,
   ⟨(some 7), none, .mv (.t 0), [], (.new [])⟩,
   ⟨(some 8), none, .len (.t 7), [], (.new [])⟩,
   ⟨(some 9), none, .bin .lss (.t 6) (.t 8), [], (.new [])⟩])
 (.cond (.t 9)
 .skip
 (.exit 0)))
 (.seq (.block 1 (.seq (.reg [⟨(some 12), none, .mv (.t 0), [], (.new [])⟩,
   ⟨(some 13), none, .mv (.t 3), [], (.new [])⟩,
   ⟨(some 14), none, .indexA 4 (.t 12) (.t 13), [], (.new [])⟩,
   ⟨(some 15), none, .load (some 4) (.t 14), [], (.new [])⟩,
   ⟨(some 4), none, .zbox [.d (.v (.string ⟨#[]⟩)), .d (.v (.int .i64 0)), .d (.v (.slice none 0 0)), .d (.v (.int .i64 0))], [], (.new [])⟩,
   ⟨none, none, .store 4 (.t 4) (.t 15), [], (.new [])⟩])
 (.seq (.seq (.sem (.regd [⟨(some 16), none, .mv (.t 3), [], (.new [])⟩,
   ⟨(some 17), none, .bin .gtr (.t 16) (kI 0), [0], (.new [])⟩,
   ⟨(some 18), none, .mv (.t 17), [0, 1], (.new [])⟩,
   ⟨(some 19), (some (18, true)), .mv (.t 0), [0, 1, 2], (.new [])⟩,
   ⟨(some 20), (some (18, true)), .mv (.t 3), [0, 1, 2], (.new [])⟩,
   ⟨(some 21), (some (18, true)), .bin .sub (.t 20) (kI 1), [0, 1, 2, 4], (.new [])⟩,
   ⟨(some 22), (some (18, true)), .indexA 4 (.t 19) (.t 21), [0, 1, 2, 3, 4, 5], (.new [])⟩,
   ⟨(some 23), (some (18, true)), .fieldA 0 (.t 22), [0, 1, 2, 3, 4, 5, 6], (.new [])⟩,
   ⟨(some 24), (some (18, true)), .load none (.t 23), [0, 1, 2, 3, 4, 5, 6, 7], (.new [])⟩,
   ⟨(some 25), (some (18, true)), .fieldA 0 (.t 4), [0, 1, 2], (.new [])⟩,
   ⟨(some 26), (some (18, true)), .load none (.t 25), [0, 1, 2, 9], (.new [])⟩,
   ⟨(some 27), (some (18, true)), .bin .geq (.t 24) (.t 26), [0, 1, 2, 3, 4, 5, 6, 7, 8, 9, 10], (.new [])⟩,
   ⟨(some 28), none, .pick (.t 18) (.t 27) (kB false), [0, 1, 2, 3, 4, 5, 6, 7, 8, 9, 10, 11], (.lone [])⟩,
   ⟨(some 29), none, .mv (.t 28), [0, 1, 2, 3, 4, 5, 6, 7, 8, 9, 10, 11, 12], (.new [])⟩,
   ⟨(some 30), (some (29, false)), .fieldA 1 (.t 4), [0, 1, 2, 3, 4, 5, 6, 7, 8, 9, 10, 11, 12, 13], (.new [])⟩,
   ⟨(some 31), (some (29, false)), .load none (.t 30), [0, 1, 2, 3, 4, 5, 6, 7, 8, 9, 10, 11, 12, 13, 14], (.new [])⟩,
   ⟨(some 32), (some (29, false)), .bin .lss (.t 31) (kI 0), [0, 1, 2, 3, 4, 5, 6, 7, 8, 9, 10, 11, 12, 13, 14, 15], (.new [])⟩,
   ⟨(some 33), none, .pick (.t 29) (kB true) (.t 32), [0, 1, 2, 3, 4, 5, 6, 7, 8, 9, 10, 11, 12, 13, 14, 15, 16], (.lone [])⟩,
   ⟨(some 34), none, .mv (.t 33), [0, 1, 2, 3, 4, 5, 6, 7, 8, 9, 10, 11, 12, 13, 14, 15, 16, 17], (.new [])⟩,
   ⟨(some 35), (some (34, false)), .fieldA 1 (.t 4), [0, 1, 2, 3, 4, 5, 6, 7, 8, 9, 10, 11, 12, 13, 14, 15, 16, 17, 18], (.new [])⟩,
   ⟨(some 36), (some (34, false)), .load none (.t 35), [0, 1, 2, 3, 4, 5, 6, 7, 8, 9, 10, 11, 12, 13, 14, 15, 16, 17, 18, 19], (.new [])⟩,
   ⟨(some 37), (some (34, false)), .bin .gtr (.t 36) (kI 1000000000000000), [0, 1, 2, 3, 4, 5, 6, 7, 8, 9, 10, 11, 12, 13, 14, 15, 16, 17, 18, 19, 20], (.new [])⟩,
   ⟨(some 38), none, .pick (.t 34) (kB true) (.t 37), [0, 1, 2, 3, 4, 5, 6, 7, 8, 9, 10, 11, 12, 13, 14, 15, 16, 17, 18, 19, 20, 21], (.lone [])⟩,
   ⟨(some 39), none, .mv (.t 38), [0, 1, 2, 3, 4, 5, 6, 7, 8, 9, 10, 11, 12, 13, 14, 15, 16, 17, 18, 19, 20, 21, 22], (.new [])⟩,
   ⟨(some 40), (some (39, false)), .fieldA 3 (.t 4), [0, 1, 2, 3, 4, 5, 6, 7, 8, 9, 10, 11, 12, 13, 14, 15, 16, 17, 18, 19, 20, 21, 22, 23], (.new [])⟩,
   ⟨(some 41), (some (39, false)), .load none (.t 40), [0, 1, 2, 3, 4, 5, 6, 7, 8, 9, 10, 11, 12, 13, 14, 15, 16, 17, 18, 19, 20, 21, 22, 23, 24], (.new [])⟩,
   ⟨(some 42), (some (39, false)), .bin .lss (.t 41) (kI 0), [0, 1, 2, 3, 4, 5, 6, 7, 8, 9, 10, 11, 12, 13, 14, 15, 16, 17, 18, 19, 20, 21, 22, 23, 24, 25], (.new [])⟩,
   ⟨(some 43), none, .pick (.t 39) (kB true) (.t 42), [0, 1, 2, 3, 4, 5, 6, 7, 8, 9, 10, 11, 12, 13, 14, 15, 16, 17, 18, 19, 20, 21, 22, 23, 24, 25, 26], (.lone [])⟩,
   ⟨(some 44), none, .mv (.t 43), [0, 1, 2, 3, 4, 5, 6, 7, 8, 9, 10, 11, 12, 13, 14, 15, 16, 17, 18, 19, 20, 21, 22, 23, 24, 25, 26, 27], (.new [])⟩,
   ⟨(some 45), (some (44, false)), .fieldA 3 (.t 4), [0, 1, 2, 3, 4, 5, 6, 7, 8, 9, 10, 11, 12, 13, 14, 15, 16, 17, 18, 19, 20, 21, 22, 23, 24, 25, 26, 27, 28], (.new [])⟩,
   ⟨(some 46), (some (44, false)), .load none (.t 45), [0, 1, 2, 3, 4, 5, 6, 7, 8, 9, 10, 11, 12, 13, 14, 15, 16, 17, 18, 19, 20, 21, 22, 23, 24, 25, 26, 27, 28, 29], (.new [])⟩,
   ⟨(some 47), (some (44, false)), .bin .gtr (.t 46) (kI 1000000000000), [0, 1, 2, 3, 4, 5, 6, 7, 8, 9, 10, 11, 12, 13, 14, 15, 16, 17, 18, 19, 20, 21, 22, 23, 24, 25, 26, 27, 28, 29, 30], (.new [])⟩,
   ⟨(some 48), none, .pick (.t 44) (kB true) (.t 47), [0, 1, 2, 3, 4, 5, 6, 7, 8, 9, 10, 11, 12, 13, 14, 15, 16, 17, 18, 19, 20, 21, 22, 23, 24, 25, 26, 27, 28, 29, 30, 31], (.lone [])⟩,
   ⟨(some 49), none, .mv (.t 48), [0, 1, 2, 3, 4, 5, 6, 7, 8, 9, 10, 11, 12, 13, 14, 15, 16, 17, 18, 19, 20, 21, 22, 23, 24, 25, 26, 27, 28, 29, 30, 31, 32], (.new [])⟩,
   ⟨(some 50), (some (49, false)), .fieldA 1 (.t 4), [0, 1, 2, 3, 4, 5, 6, 7, 8, 9, 10, 11, 12, 13, 14, 15, 16, 17, 18, 19, 20, 21, 22, 23, 24, 25, 26, 27, 28, 29, 30, 31, 32, 33], (.new [])⟩,
   ⟨(some 51), (some (49, false)), .load none (.t 50), [0, 1, 2, 3, 4, 5, 6, 7, 8, 9, 10, 11, 12, 13, 14, 15, 16, 17, 18, 19, 20, 21, 22, 23, 24, 25, 26, 27, 28, 29, 30, 31, 32, 33, 34], (.new [])⟩,
   ⟨(some 52), (some (49, false)), .bin .eql (.t 51) (kI 0), [0, 1, 2, 3, 4, 5, 6, 7, 8, 9, 10, 11, 12, 13, 14, 15, 16, 17, 18, 19, 20, 21, 22, 23, 24, 25, 26, 27, 28, 29, 30, 31, 32, 33, 34, 35], (.new [])⟩,
   ⟨(some 53), (some (49, false)), .mv (.t 52), [0, 1, 2, 3, 4, 5, 6, 7, 8, 9, 10, 11, 12, 13, 14, 15, 16, 17, 18, 19, 20, 21, 22, 23, 24, 25, 26, 27, 28, 29, 30, 31, 32, 33, 34, 35, 36], (.new [])⟩,
   ⟨(some 54), (some (53, true)), .fieldA 2 (.t 4), [0, 1, 2, 3, 4, 5, 6, 7, 8, 9, 10, 11, 12, 13, 14, 15, 16, 17, 18, 19, 20, 21, 22, 23, 24, 25, 26, 27, 28, 29, 30, 31, 32, 33, 34, 35, 36, 37], (.new [])⟩,
   ⟨(some 55), (some (53, true)), .load none (.t 54), [0, 1, 2, 3, 4, 5, 6, 7, 8, 9, 10, 11, 12, 13, 14, 15, 16, 17, 18, 19, 20, 21, 22, 23, 24, 25, 26, 27, 28, 29, 30, 31, 32, 33, 34, 35, 36, 37, 38], (.new [])⟩,
   ⟨(some 56), (some (53, true)), .len (.t 55), [0, 1, 2, 3, 4, 5, 6, 7, 8, 9, 10, 11, 12, 13, 14, 15, 16, 17, 18, 19, 20, 21, 22, 23, 24, 25, 26, 27, 28, 29, 30, 31, 32, 33, 34, 35, 36, 37, 38, 39], (.new [])⟩,
   ⟨(some 57), (some (53, true)), .bin .eql (.t 56) (kI 0), [0, 1, 2, 3, 4, 5, 6, 7, 8, 9, 10, 11, 12, 13, 14, 15, 16, 17, 18, 19, 20, 21, 22, 23, 24, 25, 26, 27, 28, 29, 30, 31, 32, 33, 34, 35, 36, 37, 38, 39, 40], (.new [])⟩,
   ⟨(some 58), (some (49, false)), .pick (.t 53) (.t 57) (kB false), [0, 1, 2, 3, 4, 5, 6, 7, 8, 9, 10, 11, 12, 13, 14, 15, 16, 17, 18, 19, 20, 21, 22, 23, 24, 25, 26, 27, 28, 29, 30, 31, 32, 33, 34, 35, 36, 37, 38, 39, 40, 41], (.lone [])⟩,
   ⟨(some 59), none, .pick (.t 49) (kB true) (.t 58), [0, 1, 2, 3, 4, 5, 6, 7, 8, 9, 10, 11, 12, 13, 14, 15, 16, 17, 18, 19, 20, 21, 22, 23, 24, 25, 26, 27, 28, 29, 30, 31, 32, 33, 34, 35, 36, 37, 38, 39, 40, 41, 42], (.lone [])⟩]))
 (.cond (.t 59)
 (.seq (.reg [⟨(some 2), none, .mv (kB false), [], (.new [])⟩])
 .ret)
 .skip))
 (.seq (.reg [⟨(some 5), none, .mv (kI 1), [], (.new [])⟩])
 (.sem (.block 2 (.loop (.seq (.seq (.reg [⟨(some 60), none, .mv (.t 5), [], (.new [])⟩,
   ⟨(some 61), none, .fieldA 2 (.t 4), [], (.new [])⟩,
   ⟨(some 62), none, .load none (.t 61), [], (.new [])⟩,
   ⟨(some 63), none, .len (.t 62), [], (.new [])⟩,
   ⟨(some 64), none, .bin .lss (.t 60) (.t 63), [], (.new [])⟩])
 (.cond (.t 64)
 .skip
 (.exit 2)))
 (.seq (.block 3 (.seq (.regd [⟨(some 67), none, .fieldA 2 (.t 4), [], (.new [])⟩,
   ⟨(some 68), none, .load none (.t 67), [0], (.new [])⟩,
   ⟨(some 69), none, .mv (.t 5), [], (.new [])⟩,
   ⟨(some 70), none, .bin .sub (.t 69) (kI 1), [2], (.new [])⟩,
   ⟨(some 71), none, .indexA 1 (.t 68) (.t 70), [0, 1, 2, 3], (.new [])⟩,
   ⟨(some 72), none, .load none (.t 71), [0, 1, 2, 3, 4], (.new [])⟩,
   ⟨(some 73), none, .fieldA 2 (.t 4), [], (.new [])⟩,
   ⟨(some 74), none, .load none (.t 73), [6], (.new [])⟩,
   ⟨(some 75), none, .mv (.t 5), [], (.new [])⟩,
   ⟨(some 76), none, .indexA 1 (.t 74) (.t 75), [6, 7, 8], (.new [])⟩,
   ⟨(some 77), none, .load none (.t 76), [6, 7, 8, 9], (.new [])⟩,
   ⟨(some 78), none, .bin .geq (.t 72) (.t 77), [0, 1, 2, 3, 4, 5, 6, 7, 8, 9, 10], (.new [])⟩])
 (.cond (.t 78)
 (.seq (.reg [⟨(some 2), none, .mv (kB false), [], (.new [])⟩])
 .ret)
 .skip)))
 (.reg [⟨(some 65), none, .mv (.t 5), [], (.new [])⟩,
   ⟨(some 66), none, .bin .add (.t 65) (kI 1), [], (.new [])⟩,
   ⟨(some 5), none, .mv (.t 66), [], (.new [])⟩]))))))))))
 (.reg [⟨(some 10), none, .mv (.t 3), [], (.new [])⟩,
   ⟨(some 11), none, .bin .add (.t 10) (kI 1), [], (.new [])⟩,
   ⟨(some 3), none, .mv (.t 11), [], (.new [])⟩])))))))
 (.seq (.reg [⟨(some 2), none, .mv (kB true), [], (.new [])⟩])
 .ret)))⟩
theorem a20_ok : afn Try.prog 20 = some a20.er := by kernel_rfl
theorem F20_ok {x0 : (List Expectation)} {r : Bool} (h : F20 x0 = some r) : CallD Try.prog 20 [.c (.d (.sl (x0.map eExpectation)))] [] (tupV [.c (.d (.v (.bool r)))]) [] := by
  refine callS a20_ok (by simp [a20]) ?_
  rw [F20] at h
  simp only [a20, VW.down, Nat.reduceEqDiff, reduceCtorEq, Nat.reduceAdd, Nat.reduceLeDiff, Nat.reduceLT, Nat.reduceBEq, Nat.reduceSub, EE.down]
  obtain ⟨o1, ho, h⟩ := Option.bind_eq_some_iff.1 h
  refine cutS (fun s => ∃ po1, o1 = Sum.inr po1 ∧ s = ⟨[], []⟩) ?_ ?_
  · have h0o1 := h
    have h := ho
    clear ho
    obtain ⟨_, hk, h⟩ := Option.bind_eq_some_iff.1 h
    have hk := ck_some hk
    simp only [VW.down, Nat.reduceEqDiff, reduceCtorEq, Nat.reduceAdd, Nat.reduceLeDiff, Nat.reduceLT, Nat.reduceBEq, Nat.reduceSub, EE.down]
    refine bL (fun j s => ∃ (o1_0 : Nat), (o1_0 ≤ x0.length ∧ j = x0.length - o1_0) ∧ s = ⟨[(0, .one (.c (.d (.sl (x0.map eExpectation))))), (3, .one (.c (.d (.v (.int .i64 ((o1_0 : Int)))))))], []⟩ ∧ F20_l1 x0 (x0.drop o1_0) o1_0 = some o1) (x0.length - 0) [] ⟨0, ⟨hk.1, rfl⟩, rfl, h⟩ ?_
    rintro _ _ ⟨o1_0, ⟨hi, rfl⟩, rfl, h⟩
    simp only [VW.down, Nat.reduceEqDiff, reduceCtorEq, Nat.reduceAdd, Nat.reduceLeDiff, Nat.reduceLT, Nat.reduceBEq, Nat.reduceSub, EE.down]
    refine condS (fun c2 => ?_) (fun c2 => ?_)
    · obtain ⟨xo1, hxo1, hd⟩ := countY (show (o1_0 : Int) < (x0.length : Int) from c2)
      rw [hd, F20_l1] at h
      simp only [VW.down, Nat.reduceEqDiff, reduceCtorEq, Nat.reduceAdd, Nat.reduceLeDiff, Nat.reduceLT, Nat.reduceBEq, Nat.reduceSub, EE.down]
      refine t_idxF (enc := eExpectation) (xs := x0) rfl rfl hxo1 rfl ?_
      simp only [VW.down, Nat.reduceEqDiff, reduceCtorEq, Nat.reduceAdd, Nat.reduceLeDiff, Nat.reduceLT, Nat.reduceBEq, Nat.reduceSub, EE.down]
      obtain ⟨o3, ho, h⟩ := Option.bind_eq_some_iff.1 h
      refine cutS (fun s => s = ⟨[(0, .one (.c (.d (.sl (x0.map eExpectation))))), (3, .one (.c (.d (.v (.int .i64 ((o1_0 : Int))))))), (4, .one (.c (.pt 0 0))), (59, .one (.c (.d (.v (.bool o3)))))], [some (.box [.d (.v (.string xo1.Key)), .d (.v (.int .i64 xo1.Creates)), .d (.sl (xo1.Deletes.map eS)), .d (.v (.int .i64 xo1.Since))])]⟩) ?_ ?_
      · have h := ho
        clear ho
        simp only [VW.down, Nat.reduceEqDiff, reduceCtorEq, Nat.reduceAdd, Nat.reduceLeDiff, Nat.reduceLT, Nat.reduceBEq, Nat.reduceSub, EE.down]
        refine guardD (fun g4 => ?_) (fun g4 => ?_)
        · have h := (if_pos g4).symm.trans h
          simp only [VW.down, Nat.reduceEqDiff, reduceCtorEq, Nat.reduceAdd, Nat.reduceLeDiff, Nat.reduceLT, Nat.reduceBEq, Nat.reduceSub, EE.down]
          obtain ⟨y5, hy5, h⟩ := Option.bind_eq_some_iff.1 h
          refine t_idxF (enc := eExpectation) (xs := x0) rfl rfl hy5 rfl ?_
          simp only [VW.down, Nat.reduceEqDiff, reduceCtorEq, Nat.reduceAdd, Nat.reduceLeDiff, Nat.reduceLT, Nat.reduceBEq, Nat.reduceSub, EE.down]
          refine guardDB (fun g6 => ?_) (fun g6 => ?_)
          · have h := (if_pos g6).symm.trans h
            simp only [VW.down, Nat.reduceEqDiff, reduceCtorEq, Nat.reduceAdd, Nat.reduceLeDiff, Nat.reduceLT, Nat.reduceBEq, Nat.reduceSub, EE.down]
            obtain rfl := Option.some.inj h
            exact eM [some 0] rfl
          · have h := (if_neg g6).symm.trans h
            simp only [VW.down, Nat.reduceEqDiff, reduceCtorEq, Nat.reduceAdd, Nat.reduceLeDiff, Nat.reduceLT, Nat.reduceBEq, Nat.reduceSub, EE.down]
            refine guardD (fun g7 => ?_) (fun g7 => ?_)
            · have h := (if_pos g7).symm.trans h
              simp only [VW.down, Nat.reduceEqDiff, reduceCtorEq, Nat.reduceAdd, Nat.reduceLeDiff, Nat.reduceLT, Nat.reduceBEq, Nat.reduceSub, EE.down]
              obtain rfl := Option.some.inj h
              exact eM [some 0] rfl
            · have h := (if_neg g7).symm.trans h
              simp only [VW.down, Nat.reduceEqDiff, reduceCtorEq, Nat.reduceAdd, Nat.reduceLeDiff, Nat.reduceLT, Nat.reduceBEq, Nat.reduceSub, EE.down]
              refine guardD (fun g8 => ?_) (fun g8 => ?_)
              · have h := (if_pos g8).symm.trans h
                simp only [VW.down, Nat.reduceEqDiff, reduceCtorEq, Nat.reduceAdd, Nat.reduceLeDiff, Nat.reduceLT, Nat.reduceBEq, Nat.reduceSub, EE.down]
                obtain rfl := Option.some.inj h
                exact eM [some 0] rfl
              · have h := (if_neg g8).symm.trans h
                simp only [VW.down, Nat.reduceEqDiff, reduceCtorEq, Nat.reduceAdd, Nat.reduceLeDiff, Nat.reduceLT, Nat.reduceBEq, Nat.reduceSub, EE.down]
                refine guardD (fun g9 => ?_) (fun g9 => ?_)
                · have h := (if_pos g9).symm.trans h
                  simp only [VW.down, Nat.reduceEqDiff, reduceCtorEq, Nat.reduceAdd, Nat.reduceLeDiff, Nat.reduceLT, Nat.reduceBEq, Nat.reduceSub, EE.down]
                  obtain rfl := Option.some.inj h
                  exact eM [some 0] rfl
                · have h := (if_neg g9).symm.trans h
                  simp only [VW.down, Nat.reduceEqDiff, reduceCtorEq, Nat.reduceAdd, Nat.reduceLeDiff, Nat.reduceLT, Nat.reduceBEq, Nat.reduceSub, EE.down]
                  refine guardD (fun g10 => ?_) (fun g10 => ?_)
                  · have h := (if_pos g10).symm.trans h
                    simp only [VW.down, Nat.reduceEqDiff, reduceCtorEq, Nat.reduceAdd, Nat.reduceLeDiff, Nat.reduceLT, Nat.reduceBEq, Nat.reduceSub, EE.down]
                    obtain rfl := Option.some.inj h
                    exact eM [some 0] rfl
                  · have h := (if_neg g10).symm.trans h
                    simp only [VW.down, Nat.reduceEqDiff, reduceCtorEq, Nat.reduceAdd, Nat.reduceLeDiff, Nat.reduceLT, Nat.reduceBEq, Nat.reduceSub, EE.down]
                    refine guardD (fun g11 => ?_) (fun g11 => ?_)
                    · have h := (if_pos g11).symm.trans h
                      simp only [VW.down, Nat.reduceEqDiff, reduceCtorEq, Nat.reduceAdd, Nat.reduceLeDiff, Nat.reduceLT, Nat.reduceBEq, Nat.reduceSub, EE.down]
                      obtain rfl := Option.some.inj h
                      exact eM [some 0] rfl
                    · have h := (if_neg g11).symm.trans h
                      simp only [VW.down, Nat.reduceEqDiff, reduceCtorEq, Nat.reduceAdd, Nat.reduceLeDiff, Nat.reduceLT, Nat.reduceBEq, Nat.reduceSub, EE.down]
                      obtain rfl := Option.some.inj h
                      exact eM [some 0] rfl
        · have h := (if_neg g4).symm.trans h
          simp only [VW.down, Nat.reduceEqDiff, reduceCtorEq, Nat.reduceAdd, Nat.reduceLeDiff, Nat.reduceLT, Nat.reduceBEq, Nat.reduceSub, EE.down]
          refine guardD (fun g12 => ?_) (fun g12 => ?_)
          · have h := (if_pos g12).symm.trans h
            simp only [VW.down, Nat.reduceEqDiff, reduceCtorEq, Nat.reduceAdd, Nat.reduceLeDiff, Nat.reduceLT, Nat.reduceBEq, Nat.reduceSub, EE.down]
            obtain rfl := Option.some.inj h
            exact eM [some 0] rfl
          · have h := (if_neg g12).symm.trans h
            simp only [VW.down, Nat.reduceEqDiff, reduceCtorEq, Nat.reduceAdd, Nat.reduceLeDiff, Nat.reduceLT, Nat.reduceBEq, Nat.reduceSub, EE.down]
            refine guardD (fun g13 => ?_) (fun g13 => ?_)
            · have h := (if_pos g13).symm.trans h
              simp only [VW.down, Nat.reduceEqDiff, reduceCtorEq, Nat.reduceAdd, Nat.reduceLeDiff, Nat.reduceLT, Nat.reduceBEq, Nat.reduceSub, EE.down]
              obtain rfl := Option.some.inj h
              exact eM [some 0] rfl
            · have h := (if_neg g13).symm.trans h
              simp only [VW.down, Nat.reduceEqDiff, reduceCtorEq, Nat.reduceAdd, Nat.reduceLeDiff, Nat.reduceLT, Nat.reduceBEq, Nat.reduceSub, EE.down]
              refine guardD (fun g14 => ?_) (fun g14 => ?_)
              · have h := (if_pos g14).symm.trans h
                simp only [VW.down, Nat.reduceEqDiff, reduceCtorEq, Nat.reduceAdd, Nat.reduceLeDiff, Nat.reduceLT, Nat.reduceBEq, Nat.reduceSub, EE.down]
                obtain rfl := Option.some.inj h
                exact eM [some 0] rfl
              · have h := (if_neg g14).symm.trans h
                simp only [VW.down, Nat.reduceEqDiff, reduceCtorEq, Nat.reduceAdd, Nat.reduceLeDiff, Nat.reduceLT, Nat.reduceBEq, Nat.reduceSub, EE.down]
                refine guardD (fun g15 => ?_) (fun g15 => ?_)
                · have h := (if_pos g15).symm.trans h
                  simp only [VW.down, Nat.reduceEqDiff, reduceCtorEq, Nat.reduceAdd, Nat.reduceLeDiff, Nat.reduceLT, Nat.reduceBEq, Nat.reduceSub, EE.down]
                  obtain rfl := Option.some.inj h
                  exact eM [some 0] rfl
                · have h := (if_neg g15).symm.trans h
                  simp only [VW.down, Nat.reduceEqDiff, reduceCtorEq, Nat.reduceAdd, Nat.reduceLeDiff, Nat.reduceLT, Nat.reduceBEq, Nat.reduceSub, EE.down]
                  refine guardD (fun g16 => ?_) (fun g16 => ?_)
                  · have h := (if_pos g16).symm.trans h
                    simp only [VW.down, Nat.reduceEqDiff, reduceCtorEq, Nat.reduceAdd, Nat.reduceLeDiff, Nat.reduceLT, Nat.reduceBEq, Nat.reduceSub, EE.down]
                    obtain rfl := Option.some.inj h
                    exact eM [some 0] rfl
                  · have h := (if_neg g16).symm.trans h
                    simp only [VW.down, Nat.reduceEqDiff, reduceCtorEq, Nat.reduceAdd, Nat.reduceLeDiff, Nat.reduceLT, Nat.reduceBEq, Nat.reduceSub, EE.down]
                    obtain rfl := Option.some.inj h
                    exact eM [some 0] rfl
      · rintro _ rfl
        clear ho
        simp only [VW.down, Nat.reduceEqDiff, reduceCtorEq, Nat.reduceAdd, Nat.reduceLeDiff, Nat.reduceLT, Nat.reduceBEq, Nat.reduceSub, EE.down]
        refine condB (fun c17 => ?_) (fun c17 => ?_)
        · have h := (if_pos c17).symm.trans h
          simp only [VW.down, Nat.reduceEqDiff, reduceCtorEq, Nat.reduceAdd, Nat.reduceLeDiff, Nat.reduceLT, Nat.reduceBEq, Nat.reduceSub, EE.down]
          obtain ⟨fh0o1, hfh0o1, rfl⟩ := Option.map_eq_some_iff.1 h
          have h := hfh0o1.trans h0o1
          obtain rfl := Option.some.inj h
          exact eF []
        · have h := (if_neg c17).symm.trans h
          simp only [VW.down, Nat.reduceEqDiff, reduceCtorEq, Nat.reduceAdd, Nat.reduceLeDiff, Nat.reduceLT, Nat.reduceBEq, Nat.reduceSub, EE.down]
          obtain ⟨o18, ho, h⟩ := Option.bind_eq_some_iff.1 h
          refine cutS (fun s => ∃ po18, o18 = Sum.inr po18 ∧ s = ⟨[(0, .one (.c (.d (.sl (x0.map eExpectation))))), (3, .one (.c (.d (.v (.int .i64 ((o1_0 : Int)))))))], []⟩) ?_ ?_
          · have h0o18 := h
            have h := ho
            clear ho
            simp only [VW.down, Nat.reduceEqDiff, reduceCtorEq, Nat.reduceAdd, Nat.reduceLeDiff, Nat.reduceLT, Nat.reduceBEq, Nat.reduceSub, EE.down]
            refine bL (fun j s => ∃ (o18_0 : Int), s = ⟨[(0, .one (.c (.d (.sl (x0.map eExpectation))))), (3, .one (.c (.d (.v (.int .i64 ((o1_0 : Int))))))), (4, .one (.c (.pt 0 0))), (5, .one (.c (.d (.v (.int .i64 o18_0)))))], [some (.box [.d (.v (.string xo1.Key)), .d (.v (.int .i64 xo1.Creates)), .d (.sl (xo1.Deletes.map eS)), .d (.v (.int .i64 xo1.Since))])]⟩ ∧ F20_l18 xo1 j o18_0 = some o18) 1099511627776 [some 0] ⟨1, rfl, h⟩ ?_
            rintro j _ ⟨o18_0, rfl, h⟩
            cases j with
            | zero => cases (show (none : Option _) = some _ from h)
            | succ j =>
              rw [F20_l18] at h
              simp only [VW.down, Nat.reduceEqDiff, reduceCtorEq, Nat.reduceAdd, Nat.reduceLeDiff, Nat.reduceLT, Nat.reduceBEq, Nat.reduceSub, EE.down]
              refine condS (fun c19 => ?_) (fun c19 => ?_)
              · have h := (if_pos c19).symm.trans h
                simp only [VW.down, Nat.reduceEqDiff, reduceCtorEq, Nat.reduceAdd, Nat.reduceLeDiff, Nat.reduceLT, Nat.reduceBEq, Nat.reduceSub, EE.down]
                obtain ⟨y20, hy20, h⟩ := Option.bind_eq_some_iff.1 h
                refine t_idxF (enc := eS) (xs := xo1.Deletes) rfl rfl hy20 rfl ?_
                simp only [VW.down, Nat.reduceEqDiff, reduceCtorEq, Nat.reduceAdd, Nat.reduceLeDiff, Nat.reduceLT, Nat.reduceBEq, Nat.reduceSub, EE.down]
                obtain ⟨y21, hy21, h⟩ := Option.bind_eq_some_iff.1 h
                refine t_idxF (enc := eS) (xs := xo1.Deletes) rfl rfl hy21 rfl ?_
                simp only [VW.down, Nat.reduceEqDiff, reduceCtorEq, Nat.reduceAdd, Nat.reduceLeDiff, Nat.reduceLT, Nat.reduceBEq, Nat.reduceSub, EE.down]
                refine condB (fun c22 => ?_) (fun c22 => ?_)
                · have h := (if_pos c22).symm.trans h
                  simp only [VW.down, Nat.reduceEqDiff, reduceCtorEq, Nat.reduceAdd, Nat.reduceLeDiff, Nat.reduceLT, Nat.reduceBEq, Nat.reduceSub, EE.down]
                  obtain ⟨fh0o18, hfh0o18, rfl⟩ := Option.map_eq_some_iff.1 h
                  have h := hfh0o18.trans h0o18
                  obtain ⟨fh0o1, hfh0o1, rfl⟩ := Option.map_eq_some_iff.1 h
                  have h := hfh0o1.trans h0o1
                  obtain rfl := Option.some.inj h
                  exact eF []
                · have h := (if_neg c22).symm.trans h
                  simp only [VW.down, Nat.reduceEqDiff, reduceCtorEq, Nat.reduceAdd, Nat.reduceLeDiff, Nat.reduceLT, Nat.reduceBEq, Nat.reduceSub, EE.down]
                  exact eL' j [some 0] ⟨(IntKind.i64.wrap (o18_0 + 1)), rfl, h⟩ (Nat.lt_succ_self _)
              · have h := (if_neg c19).symm.trans h
                simp only [VW.down, Nat.reduceEqDiff, reduceCtorEq, Nat.reduceAdd, Nat.reduceLeDiff, Nat.reduceLT, Nat.reduceBEq, Nat.reduceSub, EE.down]
                obtain rfl := Option.some.inj h
                exact eM [] ⟨_, rfl, rfl⟩
          · rintro _ ⟨po18, rfl, rfl⟩
            clear ho
            dsimp only at h
            simp only [VW.down, Nat.reduceEqDiff, reduceCtorEq, Nat.reduceAdd, Nat.reduceLeDiff, Nat.reduceLT, Nat.reduceBEq, Nat.reduceSub, EE.down]
            rw [wrapN (by omega)]
            exact eL' (x0.length - (o1_0 + 1)) [] ⟨o1_0 + 1, ⟨by omega, rfl⟩, rfl, h⟩ (by omega)
    · rw [countN (show ¬ ((o1_0 : Int) < (x0.length : Int)) from c2), F20_l1] at h
      simp only [VW.down, Nat.reduceEqDiff, reduceCtorEq, Nat.reduceAdd, Nat.reduceLeDiff, Nat.reduceLT, Nat.reduceBEq, Nat.reduceSub, EE.down]
      obtain rfl := Option.some.inj h
      exact eM [] ⟨_, rfl, rfl⟩
  · rintro _ ⟨po1, rfl, rfl⟩
    clear ho
    dsimp only at h
    simp only [VW.down, Nat.reduceEqDiff, reduceCtorEq, Nat.reduceAdd, Nat.reduceLeDiff, Nat.reduceLT, Nat.reduceBEq, Nat.reduceSub, EE.down]
    obtain rfl := Option.some.inj h
    exact eF []

/- orchestrator/orchestratorlaw32.small -/
def F7_l2  : List Expectation → Nat → Option ((Bool) ⊕ (Unit))
  | [], o2_0 => some (Sum.inr (()))
  | xo2 :: xs, o2_0 => (if 30 < (xo2.Deletes.length : Int) then (some false).map Sum.inl else F7_l2  xs (o2_0 + 1))
def F7 (x0 : (List Expectation)) : Option (Bool) := (if 30 < (x0.length : Int) then some false else (((ck (0 ≤ x0.length ∧ x0.length ≤ 4294967290)).bind fun u5 => F7_l2 x0 0).bind fun o2 => match o2 with | Sum.inl f => some f | Sum.inr po2 => (F20 x0).bind fun t6 => some t6))
def a7 : AFn := ⟨22, [(.tmp 2)],
 (.seq (.reg [⟨(some 2), none, .mv (kB false), [], (.new [])⟩])
 (.seq (.seq (.reg [⟨(some 4), none, .mv (.t 0), [], (.new [])⟩,
   ⟨(some 5), none, .len (.t 4), [], (.new [])⟩,
   ⟨(some 6), none, .bin .gtr (.t 5) (kI 30), [], (.new [])⟩])
 (.cond (.t 6)
 (.seq (.reg [⟨(some 2), none, .mv (kB false), [], (.new [])⟩])
 .ret)
 .skip))
 (.seq (.seq (.reg [⟨(some 3), none, .mv (kI 0), [], (.new [])⟩])
 (.sem (.block 0 (.loop (.seq (.seq (.reg [⟨(some 7), none, .mv (.t 3), [], (.new [])⟩,
   ⟨(some 8), none, .mv (.t 0), [], (.new [])⟩,
   ⟨(some 9), none, .len (.t 8), [], (.new [])⟩,
   ⟨(some 10), none, .bin .lss (.t 7) (.t 9), [], (.new [])⟩])
 (.cond (.t 10)
 .skip
 (.exit 0)))
 (.seq (.block 1 (.seq (.reg [⟨(some 13), none, .mv (.t 0), [], (.new [])⟩,
   ⟨(some 14), none, .mv (.t 3), [], (.new [])⟩,
   ⟨(some 15), none, .indexA 4 (.t 13) (.t 14), [], (.new [])⟩,
   ⟨(some 16), none, .fieldA 2 (.t 15), [], (.new [])⟩,
   ⟨(some 17), none, .load none (.t 16), [], (.new [])⟩,
   ⟨(some 18), none, .len (.t 17), [], (.new [])⟩,
   ⟨(some 19), none, .bin .gtr (.t 18) (kI 30), [], (.new [])⟩])
 (.cond (.t 19)
 (.seq (.reg [⟨(some 2), none, .mv (kB false), [], (.new [])⟩])
 .ret)
 .skip)))
 (.reg [⟨(some 11), none, .mv (.t 3), [], (.new [])⟩,
   ⟨(some 12), none, .bin .add (.t 11) (kI 1), [], (.new [])⟩,
   ⟨(some 3), none, .mv (.t 12), [], (.new [])⟩])))))))
 (.seq (.reg [⟨(some 20), none, .mv (.t 0), [], (.new [])⟩,
   ⟨(some 21), none, .call 20 [(.t 20)], [], (.new [])⟩,
   ⟨(some 2), none, .mv (.t 21), [], (.new [])⟩])
 .ret))))⟩
theorem a7_ok : afn Try.prog 7 = some a7.er := by kernel_rfl
theorem F7_ok {x0 : (List Expectation)} {r : Bool} (h : F7 x0 = some r) : CallD Try.prog 7 [.c (.d (.sl (x0.map eExpectation)))] [] (tupV [.c (.d (.v (.bool r)))]) [] := by
  refine callS a7_ok (by simp [a7]) ?_
  rw [F7] at h
  simp only [a7, VW.down, Nat.reduceEqDiff, reduceCtorEq, Nat.reduceAdd, Nat.reduceLeDiff, Nat.reduceLT, Nat.reduceBEq, Nat.reduceSub, EE.down]
  refine condS (fun c1 => ?_) (fun c1 => ?_)
  · have h := (if_pos c1).symm.trans h
    simp only [VW.down, Nat.reduceEqDiff, reduceCtorEq, Nat.reduceAdd, Nat.reduceLeDiff, Nat.reduceLT, Nat.reduceBEq, Nat.reduceSub, EE.down]
    obtain rfl := Option.some.inj h
    exact eF []
  · have h := (if_neg c1).symm.trans h
    simp only [VW.down, Nat.reduceEqDiff, reduceCtorEq, Nat.reduceAdd, Nat.reduceLeDiff, Nat.reduceLT, Nat.reduceBEq, Nat.reduceSub, EE.down]
    obtain ⟨o2, ho, h⟩ := Option.bind_eq_some_iff.1 h
    refine cutS (fun s => ∃ po2, o2 = Sum.inr po2 ∧ s = ⟨[(0, .one (.c (.d (.sl (x0.map eExpectation)))))], []⟩) ?_ ?_
    · have h0o2 := h
      have h := ho
      clear ho
      obtain ⟨_, hk, h⟩ := Option.bind_eq_some_iff.1 h
      have hk := ck_some hk
      simp only [VW.down, Nat.reduceEqDiff, reduceCtorEq, Nat.reduceAdd, Nat.reduceLeDiff, Nat.reduceLT, Nat.reduceBEq, Nat.reduceSub, EE.down]
      refine bL (fun j s => ∃ (o2_0 : Nat), (o2_0 ≤ x0.length ∧ j = x0.length - o2_0) ∧ s = ⟨[(0, .one (.c (.d (.sl (x0.map eExpectation))))), (3, .one (.c (.d (.v (.int .i64 ((o2_0 : Int)))))))], []⟩ ∧ F7_l2 (x0.drop o2_0) o2_0 = some o2) (x0.length - 0) [] ⟨0, ⟨hk.1, rfl⟩, rfl, h⟩ ?_
      rintro _ _ ⟨o2_0, ⟨hi, rfl⟩, rfl, h⟩
      simp only [VW.down, Nat.reduceEqDiff, reduceCtorEq, Nat.reduceAdd, Nat.reduceLeDiff, Nat.reduceLT, Nat.reduceBEq, Nat.reduceSub, EE.down]
      refine condS (fun c3 => ?_) (fun c3 => ?_)
      · obtain ⟨xo2, hxo2, hd⟩ := countY (show (o2_0 : Int) < (x0.length : Int) from c3)
        rw [hd, F7_l2] at h
        simp only [VW.down, Nat.reduceEqDiff, reduceCtorEq, Nat.reduceAdd, Nat.reduceLeDiff, Nat.reduceLT, Nat.reduceBEq, Nat.reduceSub, EE.down]
        refine t_idxF (enc := eExpectation) (xs := x0) rfl rfl hxo2 rfl ?_
        simp only [VW.down, Nat.reduceEqDiff, reduceCtorEq, Nat.reduceAdd, Nat.reduceLeDiff, Nat.reduceLT, Nat.reduceBEq, Nat.reduceSub, EE.down]
        refine condS (fun c4 => ?_) (fun c4 => ?_)
        · have h := (if_pos c4).symm.trans h
          simp only [VW.down, Nat.reduceEqDiff, reduceCtorEq, Nat.reduceAdd, Nat.reduceLeDiff, Nat.reduceLT, Nat.reduceBEq, Nat.reduceSub, EE.down]
          obtain ⟨fh0o2, hfh0o2, rfl⟩ := Option.map_eq_some_iff.1 h
          have h := hfh0o2.trans h0o2
          obtain rfl := Option.some.inj h
          exact eF []
        · have h := (if_neg c4).symm.trans h
          simp only [VW.down, Nat.reduceEqDiff, reduceCtorEq, Nat.reduceAdd, Nat.reduceLeDiff, Nat.reduceLT, Nat.reduceBEq, Nat.reduceSub, EE.down]
          rw [wrapN (by omega)]
          exact eL' (x0.length - (o2_0 + 1)) [] ⟨o2_0 + 1, ⟨by omega, rfl⟩, rfl, h⟩ (by omega)
      · rw [countN (show ¬ ((o2_0 : Int) < (x0.length : Int)) from c3), F7_l2] at h
        simp only [VW.down, Nat.reduceEqDiff, reduceCtorEq, Nat.reduceAdd, Nat.reduceLeDiff, Nat.reduceLT, Nat.reduceBEq, Nat.reduceSub, EE.down]
        obtain rfl := Option.some.inj h
        exact eM [] ⟨_, rfl, rfl⟩
    · rintro _ ⟨po2, rfl, rfl⟩
      clear ho
      dsimp only at h
      simp only [VW.down, Nat.reduceEqDiff, reduceCtorEq, Nat.reduceAdd, Nat.reduceLeDiff, Nat.reduceLT, Nat.reduceBEq, Nat.reduceSub, EE.down]
      obtain ⟨t6, ht6, h⟩ := Option.bind_eq_some_iff.1 h
      refine callX_n [] (F20_ok ht6) ?_ ?_ ?_ ?_ ?_ ?_
      · first | rfl | simp [nrmA, nrmC, nrm, A1.ren, C.ren, rn, List.length_set]
      · simp [liveAll, A1.live, C.live]
      · rfl
      · decide
      · exact trivial
      simp only [VW.down, Nat.reduceEqDiff, reduceCtorEq, Nat.reduceAdd, Nat.reduceLeDiff, Nat.reduceLT, Nat.reduceBEq, Nat.reduceSub, EE.down]
      obtain rfl := Option.some.inj h
      exact eF []

/- slices.Clone[[]string,string] -/
theorem a32_ok : afn Try.prog 32 = some (cloneA 1 16) := by kernel_rfl
theorem F32_ok {x0 r : List ByteArray} (h : cloneI x0 = some r) : CallD Try.prog 32 [.c (.d (.sl (x0.map eS)))] [] (tupV [.c (.own 0 1 0 r.length none)]) [some (.arr 1 1 (r.map eS))] := L_clone a32_ok (fun _ => rfl) h

/- orchestrator/expect.others -/
def F22_l1 (x1 : ByteArray) : List Expectation → Nat → (List Expectation) → ByteArray → Int → (List ByteArray) → Int → Bool → Option ((List Expectation) × ByteArray × Int × (List ByteArray) × Int × Bool)
  | [], o1_6, o1_0, o1_1, o1_2, o1_3, o1_4, o1_5 => some ((o1_0, o1_1, o1_2, o1_3, o1_4, o1_5))
  | xo1 :: xs, o1_6, o1_0, o1_1, o1_2, o1_3, o1_4, o1_5 => (((cloneI xo1.Deletes).bind fun t4 => (if xo1.Key = x1 then some ((o1_0, xo1.Key, xo1.Creates, t4, xo1.Since, true)) else (apI o1_0 ([(⟨xo1.Key, xo1.Creates, t4, xo1.Since⟩ : Expectation)])).bind fun a6 => some ((a6, o1_1, o1_2, o1_3, o1_4, o1_5)))).bind fun o3 => F22_l1 x1 xs (o1_6 + 1) o3.1 o3.2.1 o3.2.2.1 o3.2.2.2.1 o3.2.2.2.2.1 o3.2.2.2.2.2)
def F22 (x0 : (List Expectation)) (x1 : ByteArray) : Option ((List Expectation) × ByteArray × Int × (List ByteArray) × Int × Bool) := (((ck (0 ≤ x0.length ∧ x0.length ≤ 4294967290)).bind fun u7 => F22_l1 x1 x0 0 ([]) ((⟨#[]⟩ : ByteArray)) 0 ([]) 0 false).bind fun o1 => some ((o1.1, o1.2.1, o1.2.2.1, o1.2.2.2.1, o1.2.2.2.2.1, o1.2.2.2.2.2)))
def a22 : AFn := ⟨35, [(.tmp 4), (.cell 5 (some 4)), (.tmp 6)],
 (.seq (.reg [⟨(some 4), none, .mv kN, [], (.new [])⟩,
   ⟨(some 5), none, .zbox [.d (.v (.string ⟨#[]⟩)), .d (.v (.int .i64 0)), .d (.v (.slice none 0 0)), .d (.v (.int .i64 0))], [], (.new [])⟩,
   ⟨(some 6), none, .mv (kB false), [], (.new [])⟩])
 (.seq (.reg [⟨(some 7), none, .mv kN, [], (.new [])⟩])
 (.seq (.reg [⟨(some 8), none, .zbox [.d (.v (.string ⟨#[]⟩)), .d (.v (.int .i64 0)), .d (.v (.slice none 0 0)), .d (.v (.int .i64 0))], [], (.lone [])⟩])
 (.seq (.reg [⟨(some 9), none, .mv (kB false), [], (.new [])⟩])
 (.seq (.seq (.reg [⟨(some 12), none, .mv (.t 0), [], (.new [])⟩,
   ⟨(some 13), none, .len (.t 12), [], (.new [])⟩,
   ⟨(some 14), none, .mv (kI 0), [], (.new [])⟩])
 (.sem (.block 0 (.loop (.seq (.reg [⟨(some 15), none, .bin .lss (.t 14) (.t 13), [], (.new [])⟩])
 (.seq (.cond (.t 15)
 .skip
 (.exit 0))
 (.seq (.sem (.block 1 (.seq (.reg [⟨(some 16), none, .indexA 4 (.t 12) (.t 14), [], (.new [])⟩,
   ⟨(some 17), none, .load (some 4) (.t 16), [], (.new [])⟩,
   ⟨(some 11), none, .zbox [.d (.v (.string ⟨#[]⟩)), .d (.v (.int .i64 0)), .d (.v (.slice none 0 0)), .d (.v (.int .i64 0))], [], (.new [])⟩,
   ⟨none, none, .store 4 (.t 11) (.t 17), [], (.new [])⟩])
 (.seq (.reg [⟨(some 18), none, .fieldA 2 (.t 11), [], (.new [])⟩,
   ⟨(some 19), none, .load none (.t 18), [], (.new [])⟩,
   ⟨(some 20), none, .call 32 [(.t 19)], [], (.new [])⟩,
   ⟨(some 21), none, .fieldA 2 (.t 11), [], (.new [])⟩,
   ⟨none, none, .store 1 (.t 21) (.t 20), [], (.new [])⟩])
 (.seq (.seq (.reg [⟨(some 22), none, .fieldA 0 (.t 11), [], (.new [])⟩,
   ⟨(some 23), none, .load none (.t 22), [], (.new [])⟩,
   ⟨(some 24), none, .mv (.t 1), [], (.new [])⟩,
   ⟨(some 25), none, .bin .eql (.t 23) (.t 24), [], (.new [])⟩])
 (.cond (.t 25)
 (.seq (.reg [⟨(some 26), none, .load (some 4) (.t 11), [], (.new [])⟩,
   ⟨none, none, .store 4 (.t 8) (.t 26), [], (.new [])⟩,
   ⟨(some 9), none, .mv (kB true), [], (.new [])⟩])
 (.exit 1))
 .skip))
 (.reg [⟨(some 27), none, .mv (.t 7), [], (.new [])⟩,
   ⟨(some 28), none, .load (some 4) (.t 11), [], (.new [])⟩,
   ⟨(some 29), none, .bslice 4 [(.t 28)], [], (.new [])⟩,
   ⟨(some 30), none, .app 4 56 (.t 27) (.t 29), [], (.new [])⟩,
   ⟨(some 7), none, .mv (.t 30), [], (.new [])⟩]))))))
 (.reg [⟨(some 31), none, .bin .add (.t 14) (kI 1), [], (.new [])⟩,
   ⟨(some 14), none, .mv (.t 31), [], (.new [])⟩]))))))))
 (.seq (.regd [⟨(some 32), none, .mv (.t 7), [], (.new [])⟩,
   ⟨(some 33), none, .load (some 4) (.t 8), [], (.new [])⟩,
   ⟨(some 34), none, .mv (.t 9), [], (.new [])⟩,
   ⟨(some 4), none, .mv (.t 32), [0], (.new [])⟩,
   ⟨none, none, .store 4 (.t 5) (.t 33), [0, 1, 3], (.lone [])⟩,
   ⟨(some 6), none, .mv (.t 34), [0, 1, 2, 3, 4], (.new [])⟩])
 .ret))))))⟩
theorem a22_ok : afn Try.prog 22 = some a22.er := by kernel_rfl
theorem F22_ok {x0 : (List Expectation)} {x1 : ByteArray} {r : (List Expectation) × ByteArray × Int × (List ByteArray) × Int × Bool} (h : F22 x0 x1 = some r) : CallD Try.prog 22 [.c (.d (.sl (x0.map eExpectation))), .c (.d (.v (.string x1)))] [] (tupV [.c (.own 0 0 0 (r.1.length) none), .agg [.d (.v (.string r.2.1)), .d (.v (.int .i64 r.2.2.1)), .own 1 0 0 (r.2.2.2.1.length) none, .d (.v (.int .i64 r.2.2.2.2.1))], .c (.d (.v (.bool r.2.2.2.2.2)))]) [some (.arr 0 4 (r.1.map eExpectation)), some (.arr 0 1 (r.2.2.2.1.map eS))] := by
  refine callS a22_ok (by simp [a22]) ?_
  rw [F22] at h
  simp only [a22, VW.down, Nat.reduceEqDiff, reduceCtorEq, Nat.reduceAdd, Nat.reduceLeDiff, Nat.reduceLT, Nat.reduceBEq, Nat.reduceSub, EE.down]
  obtain ⟨o1, ho, h⟩ := Option.bind_eq_some_iff.1 h
  refine cutS (fun s => s = ⟨[(5, .one (.c (.pt 0 0))), (7, .one (.c (.own 1 0 0 (o1.1.length) none))), (8, .one (.c (.pt 2 0))), (9, .one (.c (.d (.v (.bool o1.2.2.2.2.2)))))], [some (.box [.d (.v (.string ((⟨#[]⟩ : ByteArray)))), .d (.v (.int .i64 0)), .d (.v (.slice none 0 0)), .d (.v (.int .i64 0))]), some (.arr 0 4 (o1.1.map eExpectation)), some (.box [.d (.v (.string o1.2.1)), .d (.v (.int .i64 o1.2.2.1)), .own 3 0 0 (o1.2.2.2.1.length) none, .d (.v (.int .i64 o1.2.2.2.2.1))]), some (.arr 0 1 (o1.2.2.2.1.map eS))]⟩) ?_ ?_
  · have h := ho
    clear ho
    obtain ⟨_, hk, h⟩ := Option.bind_eq_some_iff.1 h
    have hk := ck_some hk
    simp only [VW.down, Nat.reduceEqDiff, reduceCtorEq, Nat.reduceAdd, Nat.reduceLeDiff, Nat.reduceLT, Nat.reduceBEq, Nat.reduceSub, EE.down]
    refine bL (fun j s => ∃ (o1_6 : Nat) (o1_0 : List Expectation) (o1_1 : ByteArray) (o1_2 : Int) (o1_3 : List ByteArray) (o1_4 : Int) (o1_5 : Bool), (o1_6 ≤ x0.length ∧ j = x0.length - o1_6) ∧ s = ⟨[(1, .one (.c (.d (.v (.string x1))))), (5, .one (.c (.pt 0 0))), (7, .one (.c (.own 1 0 0 (o1_0.length) none))), (8, .one (.c (.pt 2 0))), (9, .one (.c (.d (.v (.bool o1_5))))), (12, .one (.c (.d (.sl (x0.map eExpectation))))), (13, .one (.c (.d (.v (.int .i64 ((x0.length : Int))))))), (14, .one (.c (.d (.v (.int .i64 ((o1_6 : Int)))))))], [some (.box [.d (.v (.string ((⟨#[]⟩ : ByteArray)))), .d (.v (.int .i64 0)), .d (.v (.slice none 0 0)), .d (.v (.int .i64 0))]), some (.arr 0 4 (o1_0.map eExpectation)), some (.box [.d (.v (.string o1_1)), .d (.v (.int .i64 o1_2)), .own 3 0 0 (o1_3.length) none, .d (.v (.int .i64 o1_4))]), some (.arr 0 1 (o1_3.map eS))]⟩ ∧ F22_l1 x1 (x0.drop o1_6) o1_6 o1_0 o1_1 o1_2 o1_3 o1_4 o1_5 = some o1) (x0.length - 0) [some 0, none, some 1, none] ⟨0, [], (⟨#[]⟩ : ByteArray), 0, [], 0, false, ⟨hk.1, rfl⟩, rfl, h⟩ ?_
    rintro _ _ ⟨o1_6, o1_0, o1_1, o1_2, o1_3, o1_4, o1_5, ⟨hi, rfl⟩, rfl, h⟩
    simp only [VW.down, Nat.reduceEqDiff, reduceCtorEq, Nat.reduceAdd, Nat.reduceLeDiff, Nat.reduceLT, Nat.reduceBEq, Nat.reduceSub, EE.down]
    refine condS (fun c2 => ?_) (fun c2 => ?_)
    · obtain ⟨xo1, hxo1, hd⟩ := countY (show (o1_6 : Int) < (x0.length : Int) from c2)
      rw [hd, F22_l1] at h
      simp only [VW.down, Nat.reduceEqDiff, reduceCtorEq, Nat.reduceAdd, Nat.reduceLeDiff, Nat.reduceLT, Nat.reduceBEq, Nat.reduceSub, EE.down]
      obtain ⟨o3, ho, h⟩ := Option.bind_eq_some_iff.1 h
      refine cutS (fun s => s = ⟨[(1, .one (.c (.d (.v (.string x1))))), (5, .one (.c (.pt 0 0))), (7, .one (.c (.own 1 0 0 (o3.1.length) none))), (8, .one (.c (.pt 2 0))), (9, .one (.c (.d (.v (.bool o3.2.2.2.2.2))))), (12, .one (.c (.d (.sl (x0.map eExpectation))))), (13, .one (.c (.d (.v (.int .i64 ((x0.length : Int))))))), (14, .one (.c (.d (.v (.int .i64 ((o1_6 : Int)))))))], [some (.box [.d (.v (.string ((⟨#[]⟩ : ByteArray)))), .d (.v (.int .i64 0)), .d (.v (.slice none 0 0)), .d (.v (.int .i64 0))]), some (.arr 0 4 (o3.1.map eExpectation)), some (.box [.d (.v (.string o3.2.1)), .d (.v (.int .i64 o3.2.2.1)), .own 3 0 0 (o3.2.2.2.1.length) none, .d (.v (.int .i64 o3.2.2.2.2.1))]), some (.arr 0 1 (o3.2.2.2.1.map eS))]⟩) ?_ ?_
      · have h := ho
        clear ho
        simp only [VW.down, Nat.reduceEqDiff, reduceCtorEq, Nat.reduceAdd, Nat.reduceLeDiff, Nat.reduceLT, Nat.reduceBEq, Nat.reduceSub, EE.down]
        refine t_idxF (enc := eExpectation) (xs := x0) rfl rfl hxo1 rfl ?_
        simp only [VW.down, Nat.reduceEqDiff, reduceCtorEq, Nat.reduceAdd, Nat.reduceLeDiff, Nat.reduceLT, Nat.reduceBEq, Nat.reduceSub, EE.down]
        obtain ⟨t4, ht4, h⟩ := Option.bind_eq_some_iff.1 h
        refine callX_n [] (F32_ok ht4) ?_ ?_ ?_ ?_ ?_ ?_
        · first | rfl | simp [nrmA, nrmC, nrm, A1.ren, C.ren, rn, List.length_set]
        · simp [liveAll, A1.live, C.live]
        · rfl
        · decide
        · exact trivial
        simp only [VW.down, Nat.reduceEqDiff, reduceCtorEq, Nat.reduceAdd, Nat.reduceLeDiff, Nat.reduceLT, Nat.reduceBEq, Nat.reduceSub, EE.down]
        refine condS (fun c5 => ?_) (fun c5 => ?_)
        · have h := (if_pos c5).symm.trans h
          simp only [VW.down, Nat.reduceEqDiff, reduceCtorEq, Nat.reduceAdd, Nat.reduceLeDiff, Nat.reduceLT, Nat.reduceBEq, Nat.reduceSub, EE.down]
          obtain rfl := Option.some.inj h
          exact eM [some 0, some 1, some 2, some 5] rfl
        · have h := (if_neg c5).symm.trans h
          simp only [VW.down, Nat.reduceEqDiff, reduceCtorEq, Nat.reduceAdd, Nat.reduceLeDiff, Nat.reduceLT, Nat.reduceBEq, Nat.reduceSub, EE.down]
          refine t_bslice (enc := eExpectation) (ys := [(⟨xo1.Key, xo1.Creates, t4, xo1.Since⟩ : Expectation)]) rfl rfl (by simp [A1.cells]) (by first | rfl | (simp only [List.drop_zero, take_mapL]; rfl)) ?_
          simp only [VW.down, Nat.reduceEqDiff, reduceCtorEq, Nat.reduceAdd, Nat.reduceLeDiff, Nat.reduceLT, Nat.reduceBEq, Nat.reduceSub, EE.down]
          obtain ⟨a6, ha6, h⟩ := Option.bind_eq_some_iff.1 h
          refine t_app (enc := eExpectation) (xs := o1_0) rfl rfl (by first | rfl | simp only [List.length_set] | exact (clrL_len (slI_len (by assumption))).symm) rfl (rows_full (enc := eExpectation) (by first | rfl | simp only [List.length_set] | exact (clrL_len (slI_len (by assumption))).symm) rfl) ha6 ?_
          simp only [VW.down, Nat.reduceEqDiff, reduceCtorEq, Nat.reduceAdd, Nat.reduceLeDiff, Nat.reduceLT, Nat.reduceBEq, Nat.reduceSub, EE.down]
          obtain rfl := Option.some.inj h
          exact eM [some 0, some 1, some 2, some 3] rfl
      · rintro _ rfl
        clear ho
        simp only [VW.down, Nat.reduceEqDiff, reduceCtorEq, Nat.reduceAdd, Nat.reduceLeDiff, Nat.reduceLT, Nat.reduceBEq, Nat.reduceSub, EE.down]
        rw [wrapN (by omega)]
        exact eL' (x0.length - (o1_6 + 1)) [some 0, some 1, some 2, some 3] ⟨o1_6 + 1, o3.1, o3.2.1, o3.2.2.1, o3.2.2.2.1, o3.2.2.2.2.1, o3.2.2.2.2.2, ⟨by omega, rfl⟩, rfl, h⟩ (by omega)
    · rw [countN (show ¬ ((o1_6 : Int) < (x0.length : Int)) from c2), F22_l1] at h
      simp only [VW.down, Nat.reduceEqDiff, reduceCtorEq, Nat.reduceAdd, Nat.reduceLeDiff, Nat.reduceLT, Nat.reduceBEq, Nat.reduceSub, EE.down]
      obtain rfl := Option.some.inj h
      exact eM [some 0, some 1, some 2, some 3] rfl
  · rintro _ rfl
    clear ho
    simp only [VW.down, Nat.reduceEqDiff, reduceCtorEq, Nat.reduceAdd, Nat.reduceLeDiff, Nat.reduceLT, Nat.reduceBEq, Nat.reduceSub, EE.down]
    obtain rfl := Option.some.inj h
    exact eF [some 1, some 3]

/- slices.Values[[]string,string] -/
def F25 (x0 : (List ByteArray)) : Option (Unit) := some (())
def a25 : AFn := ⟨4, [(.tmp 2)],
 (.seq (.reg [⟨(some 1), none, .box (.t 0), [], (.new [])⟩,
   ⟨(some 2), none, .mv (.k (.c (.d (.v (.nilFunc))))), [], (.new [])⟩])
 (.seq (.reg [⟨(some 3), none, .fn 35 [(.t 1)], [], (.new [])⟩,
   ⟨(some 2), none, .mv (.t 3), [], (.new [])⟩])
 .ret))⟩
theorem a25_ok : afn Try.prog 25 = some a25.er := by kernel_rfl
theorem F25_ok {x0 : (List ByteArray)} {r : Unit} (h : F25 x0 = some r) : CallD Try.prog 25 [.c (.d (.sl (x0.map eS)))] [] (tupV [.c (.fn 35 [(0, 0)])]) [some (.box [.d (.sl (x0.map eS))])] := by
  refine callS a25_ok (by simp [a25]) ?_
  rw [F25] at h
  simp only [a25, VW.down, Nat.reduceEqDiff, reduceCtorEq, Nat.reduceAdd, Nat.reduceLeDiff, Nat.reduceLT, Nat.reduceBEq, Nat.reduceSub, EE.down]
  obtain rfl := Option.some.inj h
  exact eF [some 0]

/- strings.Compare's own -/
noncomputable def fn58 : Func := (Try.prog.funcs[58]?).getD default
theorem fn58_ok : Try.prog.funcs[58]? = some fn58 := by kernel_rfl
theorem F58_ok {a b : ByteArray} {r : Int} (h : cmpS a b = some r) : CallD Try.prog 58 [.c (.d (.v (.string a))), .c (.d (.v (.string b)))] [] (tupV [.c (.d (.v (.int .i64 r)))]) [] := L_cmp fn58_ok (by kernel_rfl) (by kernel_rfl) (by kernel_rfl) (by kernel_rfl) h

/- internal/bytealg.CompareString -/
def F44 (x0 : ByteArray) (x1 : ByteArray) : Option (Int) := (cmpS x0 x1).bind fun t1 => some t1
def a44 : AFn := ⟨8, [(.tmp 4)],
 (.seq (.reg [⟨(some 4), none, .mv (kI 0), [], (.new [])⟩])
 (.seq (.reg [⟨(some 5), none, .mv (.t 0), [], (.new [])⟩,
   ⟨(some 6), none, .mv (.t 1), [], (.new [])⟩,
   ⟨(some 7), none, .call 58 [(.t 5), (.t 6)], [], (.new [])⟩,
   ⟨(some 4), none, .mv (.t 7), [], (.new [])⟩])
 .ret))⟩
theorem a44_ok : afn Try.prog 44 = some a44.er := by kernel_rfl
theorem F44_ok {x0 : ByteArray} {x1 : ByteArray} {r : Int} (h : F44 x0 x1 = some r) : CallD Try.prog 44 [.c (.d (.v (.string x0))), .c (.d (.v (.string x1)))] [] (tupV [.c (.d (.v (.int .i64 r)))]) [] := by
  refine callS a44_ok (by simp [a44]) ?_
  rw [F44] at h
  simp only [a44, VW.down, Nat.reduceEqDiff, reduceCtorEq, Nat.reduceAdd, Nat.reduceLeDiff, Nat.reduceLT, Nat.reduceBEq, Nat.reduceSub, EE.down]
  obtain ⟨t1, ht1, h⟩ := Option.bind_eq_some_iff.1 h
  refine callX_n [] (F58_ok ht1) ?_ ?_ ?_ ?_ ?_ ?_
  · first | rfl | simp [nrmA, nrmC, nrm, A1.ren, C.ren, rn, List.length_set]
  · simp [liveAll, A1.live, C.live]
  · rfl
  · decide
  · exact trivial
  simp only [VW.down, Nat.reduceEqDiff, reduceCtorEq, Nat.reduceAdd, Nat.reduceLeDiff, Nat.reduceLT, Nat.reduceBEq, Nat.reduceSub, EE.down]
  obtain rfl := Option.some.inj h
  exact eF []

/- strings.Compare -/
def F38 (x0 : ByteArray) (x1 : ByteArray) : Option (Int) := (F44 x0 x1).bind fun t1 => some t1
def a38 : AFn := ⟨8, [(.tmp 4)],
 (.seq (.reg [⟨(some 4), none, .mv (kI 0), [], (.new [])⟩])
 (.seq (.reg [⟨(some 5), none, .mv (.t 0), [], (.new [])⟩,
   ⟨(some 6), none, .mv (.t 1), [], (.new [])⟩,
   ⟨(some 7), none, .call 44 [(.t 5), (.t 6)], [], (.new [])⟩,
   ⟨(some 4), none, .mv (.t 7), [], (.new [])⟩])
 .ret))⟩
theorem a38_ok : afn Try.prog 38 = some a38.er := by kernel_rfl
theorem F38_ok {x0 : ByteArray} {x1 : ByteArray} {r : Int} (h : F38 x0 x1 = some r) : CallD Try.prog 38 [.c (.d (.v (.string x0))), .c (.d (.v (.string x1)))] [] (tupV [.c (.d (.v (.int .i64 r)))]) [] := by
  refine callS a38_ok (by simp [a38]) ?_
  rw [F38] at h
  simp only [a38, VW.down, Nat.reduceEqDiff, reduceCtorEq, Nat.reduceAdd, Nat.reduceLeDiff, Nat.reduceLT, Nat.reduceBEq, Nat.reduceSub, EE.down]
  obtain ⟨t1, ht1, h⟩ := Option.bind_eq_some_iff.1 h
  refine callX_n [] (F44_ok ht1) ?_ ?_ ?_ ?_ ?_ ?_
  · first | rfl | simp [nrmA, nrmC, nrm, A1.ren, C.ren, rn, List.length_set]
  · simp [liveAll, A1.live, C.live]
  · rfl
  · decide
  · exact trivial
  simp only [VW.down, Nat.reduceEqDiff, reduceCtorEq, Nat.reduceAdd, Nat.reduceLeDiff, Nat.reduceLT, Nat.reduceBEq, Nat.reduceSub, EE.down]
  obtain rfl := Option.some.inj h
  exact eF []

/- orchestrator/expect.with$1 -/
def F37 (x0 : Expectation) (x1 : ByteArray) : Option (Int) := (F38 x0.Key x1).bind fun t1 => some t1
def a37 : AFn := ⟨9, [(.tmp 4)],
 (.seq (.reg [⟨(some 2), none, .box (.t 0), [], (.new [])⟩,
   ⟨(some 4), none, .mv (kI 0), [], (.new [])⟩])
 (.seq (.reg [⟨(some 5), none, .fieldA 0 (.t 2), [], (.new [])⟩,
   ⟨(some 6), none, .load none (.t 5), [], (.new [])⟩,
   ⟨(some 7), none, .mv (.t 1), [], (.new [])⟩,
   ⟨(some 8), none, .call 38 [(.t 6), (.t 7)], [], (.new [])⟩,
   ⟨(some 4), none, .mv (.t 8), [], (.new [])⟩])
 .ret))⟩
theorem a37_ok : afn Try.prog 37 = some a37.er := by kernel_rfl
theorem F37_ok {x0 : Expectation} {x1 : ByteArray} {r : Int} (h : F37 x0 x1 = some r) : CallD Try.prog 37 [.agg [.d (.v (.string x0.Key)), .d (.v (.int .i64 x0.Creates)), .d (.sl (x0.Deletes.map eS)), .d (.v (.int .i64 x0.Since))], .c (.d (.v (.string x1)))] [] (tupV [.c (.d (.v (.int .i64 r)))]) [] := by
  refine callS a37_ok (by simp [a37]) ?_
  rw [F37] at h
  simp only [a37, VW.down, Nat.reduceEqDiff, reduceCtorEq, Nat.reduceAdd, Nat.reduceLeDiff, Nat.reduceLT, Nat.reduceBEq, Nat.reduceSub, EE.down]
  obtain ⟨t1, ht1, h⟩ := Option.bind_eq_some_iff.1 h
  refine callX_n [] (F38_ok ht1) ?_ ?_ ?_ ?_ ?_ ?_
  · first | rfl | simp [nrmA, nrmC, nrm, A1.ren, C.ren, rn, List.length_set]
  · simp [liveAll, A1.live, C.live]
  · rfl
  · decide
  · exact trivial
  simp only [VW.down, Nat.reduceEqDiff, reduceCtorEq, Nat.reduceAdd, Nat.reduceLeDiff, Nat.reduceLT, Nat.reduceBEq, Nat.reduceSub, EE.down]
  obtain rfl := Option.some.inj h
  exact eF []

/- slices.BinarySearchFunc[[]orchestrator/api.Expectation,orchestrator/api.Expectation,string] -/
def F36_l1 (x0 : (List Expectation)) (x1 : ByteArray) : Nat → Int → Int → Option (Int)
  | 0, _, _ => none
  | k + 1, o1_0, o1_1 => (if o1_0 < o1_1 then (rdI x0 ((IntKind.i64.wrap ((shrV .u64 ((IntKind.u64.wrap ((IntKind.i64.wrap (o1_0 + o1_1))))) 1))))).bind fun y3 => (F37 y3 x1).bind fun t4 => (if t4 < 0 then F36_l1 x0 x1 k ((IntKind.i64.wrap (((IntKind.i64.wrap ((shrV .u64 ((IntKind.u64.wrap ((IntKind.i64.wrap (o1_0 + o1_1))))) 1)))) + 1))) o1_1 else F36_l1 x0 x1 k o1_0 ((IntKind.i64.wrap ((shrV .u64 ((IntKind.u64.wrap ((IntKind.i64.wrap (o1_0 + o1_1))))) 1))))) else some o1_0)
def F36 (x0 : (List Expectation)) (x1 : ByteArray) : Option (Int × Bool) := ((F36_l1 x0 x1 1099511627776 0 ((x0.length : Int))).bind fun o1 => (((if o1 < (x0.length : Int) then (rdI x0 o1).bind fun y8 => (F37 y8 x1).bind fun t9 => some (decide (t9 = 0)) else some false)).bind fun o6 => some ((o1, o6))))
def a36 : AFn := ⟨49, [(.tmp 6), (.tmp 7)],
 (.seq (.reg [⟨(some 6), none, .mv (kI 0), [], (.new [])⟩,
   ⟨(some 7), none, .mv (kB false), [], (.new [])⟩])
 (.seq (.reg [⟨(some 12), none, .mv (.t 0), [], (.new [])⟩,
   ⟨(some 13), none, .len (.t 12), [], (.new [])⟩,
   ⟨(some 8), none, .mv (.t 13), [], (.new [])⟩])
 (.seq (.reg [⟨(some 14), none, .mv (.t 8), [], (.new [])⟩,
   ⟨(some 9), none, .mv (kI 0), [], (.new [])⟩,
   ⟨(some 10), none, .mv (.t 14), [], (.new [])⟩])
 (.seq (.sem (.block 0 (.loop (.seq (.seq (.reg [⟨(some 15), none, .mv (.t 9), [], (.new [])⟩,
   ⟨(some 16), none, .mv (.t 10), [], (.new [])⟩,
   ⟨(some 17), none, .bin .lss (.t 15) (.t 16), [], (.new [])⟩])
 (.cond (.t 17)
 .skip
 (.exit 0)))
 (.block 1 (.seq (.reg [⟨(some 18), none, .mv (.t 9), [], (.new [])⟩,
   ⟨(some 19), none, .mv (.t 10), [], (.new [])⟩,
   ⟨(some 20), none, .bin .add (.t 18) (.t 19), [], (.new [])⟩,
   ⟨(some 21), none, .conv .u64 (.t 20), [], (.new [])⟩,
   ⟨(some 22), none, .bin .shr (.t 21) (.k (.c (.d (.v (.int .u64 1))))), [], (.new [])⟩,
   ⟨(some 23), none, .conv .i64 (.t 22), [], (.new [])⟩,
   ⟨(some 11), none, .mv (.t 23), [], (.new [])⟩])
 (.seq (.reg [⟨(some 24), none, .mv (.t 2), [], (.new [])⟩,
   ⟨(some 25), none, .mv (.t 0), [], (.new [])⟩,
   ⟨(some 26), none, .mv (.t 11), [], (.new [])⟩,
   ⟨(some 27), none, .indexA 4 (.t 25) (.t 26), [], (.new [])⟩,
   ⟨(some 28), none, .load (some 4) (.t 27), [], (.new [])⟩,
   ⟨(some 29), none, .mv (.t 1), [], (.new [])⟩,
   ⟨(some 30), none, .callv (.t 24) [(.t 28), (.t 29)], [], (.new [])⟩,
   ⟨(some 31), none, .bin .lss (.t 30) (kI 0), [], (.new [])⟩])
 (.cond (.t 31)
 (.reg [⟨(some 32), none, .mv (.t 11), [], (.new [])⟩,
   ⟨(some 33), none, .bin .add (.t 32) (kI 1), [], (.new [])⟩,
   ⟨(some 9), none, .mv (.t 33), [], (.new [])⟩])
 (.reg [⟨(some 34), none, .mv (.t 11), [], (.new [])⟩,
   ⟨(some 10), none, .mv (.t 34), [], (.new [])⟩])))))))))
 (.seq (.sem (.reg [⟨(some 35), none, .mv (.t 9), [], (.new [])⟩,
   ⟨(some 36), none, .mv (.t 9), [], (.new [])⟩,
   ⟨(some 37), none, .mv (.t 8), [], (.new [])⟩,
   ⟨(some 38), none, .bin .lss (.t 36) (.t 37), [], (.new [])⟩,
   ⟨(some 39), none, .mv (.t 38), [], (.new [])⟩,
   ⟨(some 40), (some (39, true)), .mv (.t 2), [], (.new [])⟩,
   ⟨(some 41), (some (39, true)), .mv (.t 0), [], (.new [])⟩,
   ⟨(some 42), (some (39, true)), .mv (.t 9), [], (.new [])⟩,
   ⟨(some 43), (some (39, true)), .indexA 4 (.t 41) (.t 42), [], (.new [])⟩,
   ⟨(some 44), (some (39, true)), .load (some 4) (.t 43), [], (.new [])⟩,
   ⟨(some 45), (some (39, true)), .mv (.t 1), [], (.new [])⟩,
   ⟨(some 46), (some (39, true)), .callv (.t 40) [(.t 44), (.t 45)], [], (.new [])⟩,
   ⟨(some 47), (some (39, true)), .bin .eql (.t 46) (kI 0), [], (.new [])⟩,
   ⟨(some 48), none, .pick (.t 39) (.t 47) (kB false), [], (.new [])⟩,
   ⟨(some 6), none, .mv (.t 35), [], (.new [])⟩,
   ⟨(some 7), none, .mv (.t 48), [], (.new [])⟩]))
 .ret)))))⟩
theorem a36_ok : afn Try.prog 36 = some a36.er := by kernel_rfl
theorem F36_ok {x0 : (List Expectation)} {x1 : ByteArray} {r : Int × Bool} (h : F36 x0 x1 = some r) : CallD Try.prog 36 [.c (.d (.sl (x0.map eExpectation))), .c (.d (.v (.string x1))), .c (.fn 37 [])] [] (tupV [.c (.d (.v (.int .i64 r.1))), .c (.d (.v (.bool r.2)))]) [] := by
  refine callS a36_ok (by simp [a36]) ?_
  rw [F36] at h
  simp only [a36, VW.down, Nat.reduceEqDiff, reduceCtorEq, Nat.reduceAdd, Nat.reduceLeDiff, Nat.reduceLT, Nat.reduceBEq, Nat.reduceSub, EE.down]
  obtain ⟨o1, ho, h⟩ := Option.bind_eq_some_iff.1 h
  refine cutS (fun s => s = ⟨[(0, .one (.c (.d (.sl (x0.map eExpectation))))), (1, .one (.c (.d (.v (.string x1))))), (2, .one (.c (.fn 37 []))), (8, .one (.c (.d (.v (.int .i64 ((x0.length : Int))))))), (9, .one (.c (.d (.v (.int .i64 o1)))))], []⟩) ?_ ?_
  · have h := ho
    clear ho
    simp only [VW.down, Nat.reduceEqDiff, reduceCtorEq, Nat.reduceAdd, Nat.reduceLeDiff, Nat.reduceLT, Nat.reduceBEq, Nat.reduceSub, EE.down]
    refine bL (fun j s => ∃ (o1_0 : Int) (o1_1 : Int), s = ⟨[(0, .one (.c (.d (.sl (x0.map eExpectation))))), (1, .one (.c (.d (.v (.string x1))))), (2, .one (.c (.fn 37 []))), (8, .one (.c (.d (.v (.int .i64 ((x0.length : Int))))))), (9, .one (.c (.d (.v (.int .i64 o1_0))))), (10, .one (.c (.d (.v (.int .i64 o1_1)))))], []⟩ ∧ F36_l1 x0 x1 j o1_0 o1_1 = some o1) 1099511627776 [] ⟨0, (x0.length : Int), rfl, h⟩ ?_
    rintro j _ ⟨o1_0, o1_1, rfl, h⟩
    cases j with
    | zero => cases (show (none : Option _) = some _ from h)
    | succ j =>
      rw [F36_l1] at h
      simp only [VW.down, Nat.reduceEqDiff, reduceCtorEq, Nat.reduceAdd, Nat.reduceLeDiff, Nat.reduceLT, Nat.reduceBEq, Nat.reduceSub, EE.down]
      refine condS (fun c2 => ?_) (fun c2 => ?_)
      · have h := (if_pos c2).symm.trans h
        simp only [VW.down, Nat.reduceEqDiff, reduceCtorEq, Nat.reduceAdd, Nat.reduceLeDiff, Nat.reduceLT, Nat.reduceBEq, Nat.reduceSub, EE.down]
        refine ⟨by decide, ?_⟩
        try simp only [VW.down, Nat.reduceEqDiff, reduceCtorEq, Nat.reduceAdd, Nat.reduceLeDiff, Nat.reduceLT, Nat.reduceBEq, Nat.reduceSub, EE.down]
        obtain ⟨y3, hy3, h⟩ := Option.bind_eq_some_iff.1 h
        refine t_idxF (enc := eExpectation) (xs := x0) rfl rfl hy3 rfl ?_
        simp only [VW.down, Nat.reduceEqDiff, reduceCtorEq, Nat.reduceAdd, Nat.reduceLeDiff, Nat.reduceLT, Nat.reduceBEq, Nat.reduceSub, EE.down]
        obtain ⟨t4, ht4, h⟩ := Option.bind_eq_some_iff.1 h
        refine callX_n [] (F37_ok ht4) ?_ ?_ ?_ ?_ ?_ ?_
        · first | rfl | simp [nrmA, nrmC, nrm, A1.ren, C.ren, rn, List.length_set]
        · simp [liveAll, A1.live, C.live]
        · rfl
        · decide
        · exact trivial
        simp only [VW.down, Nat.reduceEqDiff, reduceCtorEq, Nat.reduceAdd, Nat.reduceLeDiff, Nat.reduceLT, Nat.reduceBEq, Nat.reduceSub, EE.down]
        refine condS (fun c5 => ?_) (fun c5 => ?_)
        · have h := (if_pos c5).symm.trans h
          simp only [VW.down, Nat.reduceEqDiff, reduceCtorEq, Nat.reduceAdd, Nat.reduceLeDiff, Nat.reduceLT, Nat.reduceBEq, Nat.reduceSub, EE.down]
          exact eL' j [] ⟨(IntKind.i64.wrap (((IntKind.i64.wrap ((shrV .u64 ((IntKind.u64.wrap ((IntKind.i64.wrap (o1_0 + o1_1))))) 1)))) + 1)), o1_1, rfl, h⟩ (Nat.lt_succ_self _)
        · have h := (if_neg c5).symm.trans h
          simp only [VW.down, Nat.reduceEqDiff, reduceCtorEq, Nat.reduceAdd, Nat.reduceLeDiff, Nat.reduceLT, Nat.reduceBEq, Nat.reduceSub, EE.down]
          exact eL' j [] ⟨o1_0, (IntKind.i64.wrap ((shrV .u64 ((IntKind.u64.wrap ((IntKind.i64.wrap (o1_0 + o1_1))))) 1))), rfl, h⟩ (Nat.lt_succ_self _)
      · have h := (if_neg c2).symm.trans h
        simp only [VW.down, Nat.reduceEqDiff, reduceCtorEq, Nat.reduceAdd, Nat.reduceLeDiff, Nat.reduceLT, Nat.reduceBEq, Nat.reduceSub, EE.down]
        obtain rfl := Option.some.inj h
        exact eM [] rfl
  · rintro _ rfl
    clear ho
    simp only [VW.down, Nat.reduceEqDiff, reduceCtorEq, Nat.reduceAdd, Nat.reduceLeDiff, Nat.reduceLT, Nat.reduceBEq, Nat.reduceSub, EE.down]
    obtain ⟨o6, ho, h⟩ := Option.bind_eq_some_iff.1 h
    refine cutS (fun s => s = ⟨[(6, .one (.c (.d (.v (.int .i64 o1))))), (7, .one (.c (.d (.v (.bool o6)))))], []⟩) ?_ ?_
    · have h := ho
      clear ho
      simp only [VW.down, Nat.reduceEqDiff, reduceCtorEq, Nat.reduceAdd, Nat.reduceLeDiff, Nat.reduceLT, Nat.reduceBEq, Nat.reduceSub, EE.down]
      refine guardS (fun g7 => ?_) (fun g7 => ?_)
      · have h := (if_pos g7).symm.trans h
        simp only [VW.down, Nat.reduceEqDiff, reduceCtorEq, Nat.reduceAdd, Nat.reduceLeDiff, Nat.reduceLT, Nat.reduceBEq, Nat.reduceSub, EE.down]
        obtain ⟨y8, hy8, h⟩ := Option.bind_eq_some_iff.1 h
        refine t_idxF (enc := eExpectation) (xs := x0) rfl rfl hy8 rfl ?_
        simp only [VW.down, Nat.reduceEqDiff, reduceCtorEq, Nat.reduceAdd, Nat.reduceLeDiff, Nat.reduceLT, Nat.reduceBEq, Nat.reduceSub, EE.down]
        obtain ⟨t9, ht9, h⟩ := Option.bind_eq_some_iff.1 h
        refine callX_n [] (F37_ok ht9) ?_ ?_ ?_ ?_ ?_ ?_
        · first | rfl | simp [nrmA, nrmC, nrm, A1.ren, C.ren, rn, List.length_set]
        · simp [liveAll, A1.live, C.live]
        · rfl
        · decide
        · exact trivial
        simp only [VW.down, Nat.reduceEqDiff, reduceCtorEq, Nat.reduceAdd, Nat.reduceLeDiff, Nat.reduceLT, Nat.reduceBEq, Nat.reduceSub, EE.down]
        obtain rfl := Option.some.inj h
        exact eM [] rfl
      · have h := (if_neg g7).symm.trans h
        simp only [VW.down, Nat.reduceEqDiff, reduceCtorEq, Nat.reduceAdd, Nat.reduceLeDiff, Nat.reduceLT, Nat.reduceBEq, Nat.reduceSub, EE.down]
        obtain rfl := Option.some.inj h
        exact eM [] rfl
    · rintro _ rfl
      clear ho
      simp only [VW.down, Nat.reduceEqDiff, reduceCtorEq, Nat.reduceAdd, Nat.reduceLeDiff, Nat.reduceLT, Nat.reduceBEq, Nat.reduceSub, EE.down]
      obtain rfl := Option.some.inj h
      exact eF []

/- slices.Collect of slices.Values at strings -/
end Go.Proofs.Ytkgjaknjpdkaeaa
namespace Go.Proofs
open Go.RowKit Go.Shelf Go.Sort

def uptoF (f : Nat → List UInt8) (k : Nat) : List (List UInt8) := (List.range k).map f
theorem uptoF_succ (f : Nat → List UInt8) (k : Nat) : uptoF f (k + 1) = uptoF f k ++ [f k] := by simp [uptoF, List.range_succ]
theorem uptoF_length (f : Nat → List UInt8) (k : Nat) : (uptoF f k).length = k := by simp [uptoF]
theorem uptoF_all (zs : List (List UInt8)) : uptoF (fun j => zs[j]?.getD []) zs.length = zs := by
  apply List.ext_getElem
  · simp [uptoF]
  · intro i h1 h2
    simp [uptoF, h2]

set_option maxRecDepth 100000 in
set_option maxHeartbeats 2000000 in
theorem vals35_in (F : Fence) (n : Nat) (hf : F.fn 35) (hro : F.round = none) (hn : 1 ≤ n) (l Bs b off len cap : Nat) (zs : List (List UInt8)) (hreach : len * 16 ≤ 140737488351232) (J : List (List UInt8) → World → Prop) (w : World) (hb : b < w.heap.size)
    (hBJ : ∀ pre W, J pre W → Below w.heap.size w W)
    (hY : ∀ pre x W, J pre W → pre.length < len → YieldAt F (n - 1) Try.prog l #[encStr x] W fun e W' => e = .returned (.bool true) ∧ J (pre ++ [x]) W' ∧ KeepsWalks W W')
    (W : World) (hBs : W.cell? ⟨Bs, 0, none⟩ = some (.slice (some ⟨b, off, none⟩) len cap)) (hc : ∀ j, j < len → w.cell? ⟨b, off + j, none⟩ = some (encStr (zs[j]?.getD []))) (h0 : J [] W) :
    CallsIn F n Try.prog 35 #[.func (.yield l) #[] #[], .pointer (some ⟨Bs, 0, none⟩)] W fun e W' => (∃ v, e = .returned v) ∧ ∃ ys, ys = uptoF (fun j => zs[j]?.getD []) len ∧ J ys W' := by
  refine callsIn_of_wp Try.func35 rfl hf ?_ hro
  simp only [Try.ntmps35, List.size_toArray, List.length_cons, List.length_nil, Nat.reduceAdd, Nat.reduceSub, Array.replicate_succ, Array.replicate_zero, List.push_toArray, List.append_toArray, List.nil_append, List.cons_append]
  gi_wp2
  gi_loopw [7] (fun i wr => ∃ k : Nat, k ≤ len ∧ i = .int .i64 k ∧ J (uptoF (fun j => zs[j]?.getD []) k) wr)
    (fun i _ => len - (intOf i).toNat)
  case atStart => exact ⟨0, Nat.zero_le _, rfl, h0⟩
  case round =>
    obtain ⟨k, hk, rfl, hJs⟩ := hrel
    have hcx : k < len → wr.cell? ⟨b, off + k, none⟩ = some (encStr (zs[k]?.getD [])) := fun h => ((hBJ _ _ hJs).cell (p := ⟨b, off + k, none⟩) hb).trans (hc k h)
    by_cases hlt : k < len
    · obtain ⟨fn, tmps, assign, body, hy, hR⟩ := hY _ (zs[k]?.getD []) wr hJs (by rw [uptoF_length]; exact hlt)
      have hcx' := hcx hlt
      gi_wp2
      refine hR.mono ?_
      rintro e W3 ⟨rfl, hJ3, hk3⟩
      gi_wp2
      go_roundw
      case rel => exact ⟨k + 1, by omega, by simp, by rw [uptoF_succ]; exact hJ3⟩
      case measure => simp [intOf]; omega
    · obtain rfl : k = len := by omega
      gi_wp2
      go_end0
      exact ⟨⟨_, rfl⟩, _, rfl, hJs⟩

set_option maxRecDepth 100000 in
set_option maxHeartbeats 1000000 in
theorem vals35_nil_in (F : Fence) (n : Nat) (hf : F.fn 35) (hro : F.round = none) (l Bs : Nat) (J : List (List UInt8) → World → Prop) (W : World) (p : Option Addr) (cap : Nat) (hBs : W.cell? ⟨Bs, 0, none⟩ = some (.slice p 0 cap)) (h0 : J [] W) :
    CallsIn F n Try.prog 35 #[.func (.yield l) #[] #[], .pointer (some ⟨Bs, 0, none⟩)] W fun e W' => (∃ v, e = .returned v) ∧ J [] W' := by
  refine callsIn_of_wp Try.func35 rfl hf ?_ hro
  simp only [Try.ntmps35, List.size_toArray, List.length_cons, List.length_nil, Nat.reduceAdd, Nat.reduceSub, Array.replicate_succ, Array.replicate_zero, List.push_toArray, List.append_toArray, List.nil_append, List.cons_append]
  gi_wp2
  gi_loopw [7] (fun i wr => i = .int .i64 0 ∧ J [] wr) (fun _ _ => 0)
  case atStart => exact ⟨rfl, h0⟩
  case round =>
    obtain ⟨rfl, hJs⟩ := hrel
    gi_wp2
    go_end0
    exact ⟨⟨_, rfl⟩, hJs⟩
theorem vals35 : Go.Fw.ValsIn Try.prog 35 :=
  ⟨fun n hn l Bs b off len cap zs hr J w hb hBJ hY W hBs hc h0 => vals35_in Fence.wide n trivial rfl hn l Bs b off len cap zs hr J w hb hBJ hY W hBs hc h0,
   fun n l Bs J W p cap hBs h0 => vals35_nil_in Fence.wide n trivial rfl l Bs J W p cap hBs h0⟩
end Go.Proofs
namespace Go.Proofs.Ytkgjaknjpdkaeaa
open Go Go.Fw Go.Shelf
set_option maxRecDepth 100000
set_option maxHeartbeats 4000000
set_option linter.unusedSimpArgs false
set_option linter.unusedVariables false
def Try.laysColl_ren : Go.Shelf.Ren := ⟨fun | 8 => 33 | 11 => 41 | n => n, fun | 26 => 9 | 28 => 45 | 24 => 23 | 0 => 0 | 33 => 51 | 4 => 4 | n => n, fun | n => n⟩
theorem Try.laysColl : Go.Proofs.SlLaysZ.n8 Try.prog Try.laysColl_ren := {
  mixed := by kernel_rfl
  f8 := ⟨Try.f33.name, by decide, Try.func33.trans (congrArg some (by kernel_rfl))⟩
  f11 := ⟨Try.f41.name, by decide, Try.func41.trans (congrArg some (by kernel_rfl))⟩
  t0 := Try.underlying0
  a0 := Try.isAgg0
  z0 := Try.sizeOf0
  v0 := Try.zeroValue0
  t24 := Try.underlying23
  a24 := Try.isAgg23
  z24 := Try.sizeOf23
  v24 := Try.zeroValue23
  t26 := Try.underlying9
  a26 := Try.isAgg9
  z26 := Try.sizeOf9
  v26 := Try.zeroValue9
  t28 := Try.underlying45
  a28 := Try.isAgg45
  z28 := Try.sizeOf45
  v28 := Try.zeroValue45
  i26 := by kernel_rfl }
theorem F33_ok {x0 r : List ByteArray} (h : collI x0 = some r) : CallD Try.prog 33 [.c (.fn 35 [(0, 0)])] [some (.box [.d (.sl (x0.map eS))])] (tupV [.c (.own 1 0 0 r.length none)]) [some (.box [.d (.sl (x0.map eS))]), some (.arr 0 1 (r.map eS))] := L_coll (ρ := Try.laysColl_ren) Try.laysColl rfl (by kernel_rfl) (enters_of Try.func35 (by kernel_rfl) rfl) vals35 h

/- slices.Sort at strings -/
def Try.laysSort_ren : Go.Shelf.Ren := ⟨fun | 190 => 34 | 125 => 43 | 258 => 42 | 128 => 56 | 129 => 57 | 302 => 47 | 303 => 48 | 304 => 49 | 305 => 50 | 306 => 51 | 307 => 52 | 308 => 53 | 309 => 54 | 310 => 55 | 333 => 60 | 329 => 61 | 330 => 62 | 334 => 63 | 335 => 64 | 336 => 65 | 344 => 67 | n => n, fun | 31 => 23 | 9 => 9 | 3 => 3 | 46 => 62 | 0 => 0 | 51 => 73 | 53 => 75 | 4 => 4 | 183 => 66 | 182 => 65 | 131 => 53 | 5 => 5 | 218 => 76 | 222 => 80 | 228 => 83 | 229 => 84 | n => n, fun | n => n⟩
theorem Try.laysSort : Go.Proofs.Lays.n190 Try.prog Try.laysSort_ren := {
  mixed := by kernel_rfl
  f125 := Try.func43.trans (congrArg some (by kernel_rfl))
  f128 := Try.func56.trans (congrArg some (by kernel_rfl))
  f129 := Try.func57.trans (congrArg some (by kernel_rfl))
  f190 := Try.func34.trans (congrArg some (by kernel_rfl))
  f258 := Try.func42.trans (congrArg some (by kernel_rfl))
  f302 := Try.func47.trans (congrArg some (by kernel_rfl))
  f303 := Try.func48.trans (congrArg some (by kernel_rfl))
  f304 := Try.func49.trans (congrArg some (by kernel_rfl))
  f305 := Try.func50.trans (congrArg some (by kernel_rfl))
  f306 := Try.func51.trans (congrArg some (by kernel_rfl))
  f307 := Try.func52.trans (congrArg some (by kernel_rfl))
  f308 := Try.func53.trans (congrArg some (by kernel_rfl))
  f309 := Try.func54.trans (congrArg some (by kernel_rfl))
  f310 := Try.func55.trans (congrArg some (by kernel_rfl))
  f329 := Try.func61.trans (congrArg some (by kernel_rfl))
  f330 := Try.func62.trans (congrArg some (by kernel_rfl))
  f333 := Try.func60.trans (congrArg some (by kernel_rfl))
  f334 := Try.func63.trans (congrArg some (by kernel_rfl))
  f335 := Try.func64.trans (congrArg some (by kernel_rfl))
  f336 := Try.func65.trans (congrArg some (by kernel_rfl))
  f344 := Try.func67.trans (congrArg some (by kernel_rfl))
  t0 := Try.underlying0
  a0 := Try.isAgg0
  z0 := Try.sizeOf0
  v0 := Try.zeroValue0
  t3 := Try.underlying3
  a3 := Try.isAgg3
  z3 := Try.sizeOf3
  v3 := Try.zeroValue3
  t4 := Try.underlying4
  a4 := Try.isAgg4
  z4 := Try.sizeOf4
  v4 := Try.zeroValue4
  t5 := Try.underlying5
  a5 := Try.isAgg5
  z5 := Try.sizeOf5
  v5 := Try.zeroValue5
  t9 := Try.underlying9
  a9 := Try.isAgg9
  z9 := Try.sizeOf9
  v9 := Try.zeroValue9
  t31 := Try.underlying23
  a31 := Try.isAgg23
  z31 := Try.sizeOf23
  v31 := Try.zeroValue23
  t46 := Try.underlying62
  a46 := Try.isAgg62
  z46 := Try.sizeOf62
  v46 := Try.zeroValue62
  t51 := Try.underlying73
  a51 := Try.isAgg73
  z51 := Try.sizeOf73
  v51 := Try.zeroValue73
  t53 := Try.underlying75
  a53 := Try.isAgg75
  z53 := Try.sizeOf75
  v53 := Try.zeroValue75
  t131 := Try.underlying53
  a131 := Try.isAgg53
  z131 := Try.sizeOf53
  v131 := Try.zeroValue53
  t182 := Try.underlying65
  a182 := Try.isAgg65
  z182 := Try.sizeOf65
  v182 := Try.zeroValue65
  t183 := Try.underlying66
  a183 := Try.isAgg66
  z183 := Try.sizeOf66
  v183 := Try.zeroValue66
  t218 := Try.underlying76
  a218 := Try.isAgg76
  z218 := Try.sizeOf76
  v218 := Try.zeroValue76
  t222 := Try.underlying80
  a222 := Try.isAgg80
  z222 := Try.sizeOf80
  v222 := Try.zeroValue80
  t228 := Try.underlying83
  a228 := Try.isAgg83
  z228 := Try.sizeOf83
  v228 := Try.zeroValue83
  t229 := Try.underlying84
  a229 := Try.isAgg84
  z229 := Try.sizeOf84
  v229 := Try.zeroValue84 }
theorem F34_ok {x0 r : List ByteArray} {e0 : Nat} (h : sortI x0 = some r) : CallD Try.prog 34 [.c (.own 0 e0 0 x0.length none)] [some (.arr e0 1 (x0.map eS))] (tupV []) [some (.arr e0 1 (r.map eS))] := L_sort (ρ := Try.laysSort_ren) Try.laysSort rfl (by kernel_rfl) h

/- slices.Sorted[string] -/
def F24 (b0 : (List ByteArray)) : Option ((List ByteArray)) := (collI b0).bind fun t1 => (sortI t1).bind fun t2 => some t2
def a24 : AFn := ⟨9, [(.tmp 2)],
 (.seq (.reg [⟨(some 2), none, .mv kN, [], (.new [])⟩])
 (.seq (.reg [⟨(some 4), none, .mv (.t 0), [], (.new [])⟩,
   ⟨(some 5), none, .call 33 [(.t 4)], [], (.new [])⟩,
   ⟨(some 3), none, .mv (.t 5), [], (.new [])⟩])
 (.seq (.reg [⟨(some 6), none, .mv (.t 3), [], (.new [])⟩,
   ⟨(some 7), none, .call 34 [(.t 6)], [], (.lone [])⟩])
 (.seq (.reg [⟨(some 8), none, .mv (.t 3), [], (.new [])⟩,
   ⟨(some 2), none, .mv (.t 8), [], (.new [])⟩])
 .ret))))⟩
theorem a24_ok : afn Try.prog 24 = some a24.er := by kernel_rfl
theorem F24_ok {b0 : (List ByteArray)} {r : (List ByteArray)} (h : F24 b0 = some r) : CallD Try.prog 24 [.c (.fn 35 [(0, 0)])] [some (.box [.d (.sl (b0.map eS))])] (tupV [.c (.own 1 0 0 (r.length) none)]) [some (.box [.d (.sl (b0.map eS))]), some (.arr 0 1 (r.map eS))] := by
  refine callS a24_ok (by simp [a24]) ?_
  rw [F24] at h
  simp only [a24, VW.down, Nat.reduceEqDiff, reduceCtorEq, Nat.reduceAdd, Nat.reduceLeDiff, Nat.reduceLT, Nat.reduceBEq, Nat.reduceSub, EE.down]
  obtain ⟨t1, ht1, h⟩ := Option.bind_eq_some_iff.1 h
  refine callX_n [0] (F33_ok ht1) ?_ ?_ ?_ ?_ ?_ ?_
  · first | rfl | simp [nrmA, nrmC, nrm, A1.ren, C.ren, rn, List.length_set]
  · simp [liveAll, A1.live, C.live, hp]
  · rfl
  · decide
  · exact ⟨⟨rfl, by simp [Blk.live, C.live, hp]⟩, trivial⟩
  simp only [VW.down, Nat.reduceEqDiff, reduceCtorEq, Nat.reduceAdd, Nat.reduceLeDiff, Nat.reduceLT, Nat.reduceBEq, Nat.reduceSub, EE.down]
  obtain ⟨t2, ht2, h⟩ := Option.bind_eq_some_iff.1 h
  refine callX_n [1] (F34_ok (e0 := 0) ht2) ?_ ?_ ?_ ?_ ?_ ?_
  · first | rfl | simp [nrmA, nrmC, nrm, A1.ren, C.ren, rn, List.length_set]
  · simp [liveAll, A1.live, C.live, hp]
  · rfl
  · decide
  · exact ⟨⟨rfl, trivial⟩, trivial⟩
  try rw [← sortI_len ht2]
  simp only [VW.down, Nat.reduceEqDiff, reduceCtorEq, Nat.reduceAdd, Nat.reduceLeDiff, Nat.reduceLT, Nat.reduceBEq, Nat.reduceSub, EE.down]
  obtain rfl := Option.some.inj h
  exact eF [some 0, some 1]

/- slices.Compact at strings -/
def Try.laysComp_ren : Go.Shelf.Ren := ⟨fun | 194 => 23 | n => n, fun | 31 => 23 | 9 => 9 | 3 => 3 | 4 => 4 | 0 => 0 | n => n, fun | n => n⟩
theorem Try.laysComp : Go.Proofs.Lays.n194 Try.prog Try.laysComp_ren := {
  mixed := by kernel_rfl
  f194 := Try.func23.trans (congrArg some (by kernel_rfl))
  t0 := Try.underlying0
  a0 := Try.isAgg0
  z0 := Try.sizeOf0
  v0 := Try.zeroValue0
  t3 := Try.underlying3
  a3 := Try.isAgg3
  z3 := Try.sizeOf3
  v3 := Try.zeroValue3
  t4 := Try.underlying4
  a4 := Try.isAgg4
  z4 := Try.sizeOf4
  v4 := Try.zeroValue4
  t9 := Try.underlying9
  a9 := Try.isAgg9
  z9 := Try.sizeOf9
  v9 := Try.zeroValue9
  t31 := Try.underlying23
  a31 := Try.isAgg23
  z31 := Try.sizeOf23
  v31 := Try.zeroValue23 }
theorem F23_ok {x0 r : List ByteArray} {e0 : Nat} (h : compI x0 = some r) : CallD Try.prog 23 [.c (.own 0 e0 0 x0.length none)] [some (.arr e0 1 (x0.map eS))] (tupV [.c (.own 0 (e0 + 1) 0 r.length none)]) [some (.arr (e0 + 1) 1 (r.map eS))] := L_comp (ρ := Try.laysComp_ren) Try.laysComp rfl (by kernel_rfl) h

/- slices.overlaps[orchestrator/api.Expectation] -/
noncomputable def fn45 : Func := (Try.prog.funcs[45]?).getD default
theorem fn45_ok : Try.prog.funcs[45]? = some fn45 := by kernel_rfl
theorem ov45 (e0 e1 o0 o1 l0 l1 : Nat) (c0 c1 : Option Nat) (r0 r1 : List (List D)) :
    CallD Try.prog 45 [.c (.own 0 e0 o0 l0 c0), .c (.own 1 e1 o1 l1 c1)] [some (.arr e0 4 r0), some (.arr e1 4 r1)] (.one (aB false)) [some (.arr e0 4 r0), some (.arr e1 4 r1)] :=
  ovl_callD (tS := 22) (tT := 4) (e := 39) (ps := #[22, 22]) (rs := #[4]) fn45_ok (by kernel_rfl) (by kernel_rfl) (by kernel_rfl) (by kernel_rfl) rfl rfl (by kernel_rfl) (by kernel_rfl) e0 e1 o0 o1 l0 l1 c0 c1 r0 r1

/- slices.Insert[[]orchestrator/api.Expectation,orchestrator/api.Expectation] -/
theorem a39_ok : afn Try.prog 39 = some (insertA 4 56 [.v (.string ⟨#[]⟩), .v (.int .i64 0), .sl [], .v (.int .i64 0)] 45 46) := by kernel_rfl
theorem F39_ok {x0 r : List Expectation} {i : Int} {x : Expectation} {e0 e1 : Nat} (h : insI x0 i x = some r) : CallD Try.prog 39 [.c (.own 0 e0 0 x0.length none), aI i, .c (.own 1 e1 0 [x].length none)] [some (.arr e0 4 (x0.map eExpectation)), some (.arr e1 4 ([x].map eExpectation))] (tupV [.c (.own 0 (e0 + 1) 0 r.length none)]) [some (.arr (e0 + 1) 4 (r.map eExpectation)), some (.arr e1 4 ([x].map eExpectation))] := L_insert a39_ok ov45 (fun _ => rfl) h

/- orchestrator/expect.with -/
def F26 (x0 : (List Expectation)) (x1 : Expectation) : Option ((List Expectation)) := (((if x1.Creates = 0 then some (decide ((x1.Deletes.length : Int) = 0)) else some false)).bind fun o1 => (if o1 = true then some x0 else (F36 x0 x1.Key).bind fun t4 => (insI x0 t4.1 x1).bind fun t5 => some t5))
def a26 : AFn := ⟨29, [(.tmp 4)],
 (.seq (.reg [⟨(some 3), none, .box (.t 1), [], (.new [])⟩,
   ⟨(some 4), none, .mv kN, [], (.new [])⟩])
 (.seq (.seq (.sem (.reg [⟨(some 7), none, .fieldA 1 (.t 3), [], (.new [])⟩,
   ⟨(some 8), none, .load none (.t 7), [], (.new [])⟩,
   ⟨(some 9), none, .bin .eql (.t 8) (kI 0), [], (.new [])⟩,
   ⟨(some 10), none, .mv (.t 9), [], (.new [])⟩,
   ⟨(some 11), (some (10, true)), .fieldA 2 (.t 3), [], (.new [])⟩,
   ⟨(some 12), (some (10, true)), .load none (.t 11), [], (.new [])⟩,
   ⟨(some 13), (some (10, true)), .len (.t 12), [], (.new [])⟩,
   ⟨(some 14), (some (10, true)), .bin .eql (.t 13) (kI 0), [], (.new [])⟩,
   ⟨(some 15), none, .pick (.t 10) (.t 14) (kB false), [], (.lone [3, 7, 3, 11, 12])⟩]))
 (.cond (.t 15)
 (.seq (.reg [⟨(some 16), none, .mv (.t 0), [], (.new [])⟩,
   ⟨(some 4), none, .mv (.t 16), [], (.new [])⟩])
 .ret)
 .skip))
 (.seq (.reg [⟨(some 18), none, .mv (.t 0), [], (.new [])⟩,
   ⟨(some 19), none, .fieldA 0 (.t 3), [], (.new [])⟩,
   ⟨(some 20), none, .load none (.t 19), [], (.new [])⟩,
   ⟨(some 21), none, .call 36 [(.t 18), (.t 20), (.f 37)], [], (.new [])⟩,
   ⟨(some 17), none, .mv (.t 21), [], (.new [])⟩,
   ⟨(some 22), none, .ext (.t 17) 0, [], (.new [])⟩,
   ⟨(some 23), none, .ext (.t 17) 1, [], (.new [])⟩,
   ⟨(some 5), none, .mv (.t 22), [], (.new [])⟩,
   ⟨(some 6), none, .mv (.t 23), [], (.new [])⟩])
 (.seq (.reg [⟨(some 24), none, .mv (.t 0), [], (.new [])⟩,
   ⟨(some 25), none, .mv (.t 5), [], (.new [])⟩,
   ⟨(some 26), none, .load (some 4) (.t 3), [], (.new [])⟩,
   ⟨(some 27), none, .bslice 4 [(.t 26)], [], (.new [])⟩,
   ⟨(some 28), none, .call 39 [(.t 24), (.t 25), (.t 27)], [], (.new [])⟩,
   ⟨(some 4), none, .mv (.t 28), [], (.new [])⟩])
 .ret))))⟩
theorem a26_ok : afn Try.prog 26 = some a26.er := by kernel_rfl
theorem F26_ok {x0 : (List Expectation)} {x1 : Expectation} {r : (List Expectation)} {e0 : Nat} (h : F26 x0 x1 = some r) : CallD Try.prog 26 [.c (.own 0 e0 0 (x0.length) none), .agg [.d (.v (.string x1.Key)), .d (.v (.int .i64 x1.Creates)), .d (.sl (x1.Deletes.map eS)), .d (.v (.int .i64 x1.Since))]] [some (.arr e0 4 (x0.map eExpectation))] (tupV [.c (.own 0 (e0 + 2) 0 (r.length) none)]) [some (.arr (e0 + 2) 4 (r.map eExpectation))] := by
  refine callS a26_ok (by simp [a26]) ?_
  rw [F26] at h
  simp only [a26, VW.down, Nat.reduceEqDiff, reduceCtorEq, Nat.reduceAdd, Nat.reduceLeDiff, Nat.reduceLT, Nat.reduceBEq, Nat.reduceSub, EE.down]
  obtain ⟨o1, ho, h⟩ := Option.bind_eq_some_iff.1 h
  refine cutS (fun s => s = ⟨[(0, .one (.c (.own 0 e0 0 (x0.length) none))), (3, .one (.c (.pt 1 0))), (15, .one (.c (.d (.v (.bool o1)))))], [some (.arr e0 4 (x0.map eExpectation)), some (.box [.d (.v (.string x1.Key)), .d (.v (.int .i64 x1.Creates)), .d (.sl (x1.Deletes.map eS)), .d (.v (.int .i64 x1.Since))])]⟩) ?_ ?_
  · have h := ho
    clear ho
    simp only [VW.down, Nat.reduceEqDiff, reduceCtorEq, Nat.reduceAdd, Nat.reduceLeDiff, Nat.reduceLT, Nat.reduceBEq, Nat.reduceSub, EE.down]
    refine guardS (fun g2 => ?_) (fun g2 => ?_)
    · have h := (if_pos g2).symm.trans h
      simp only [VW.down, Nat.reduceEqDiff, reduceCtorEq, Nat.reduceAdd, Nat.reduceLeDiff, Nat.reduceLT, Nat.reduceBEq, Nat.reduceSub, EE.down]
      obtain rfl := Option.some.inj h
      exact eM [some 0, some 1] rfl
    · have h := (if_neg g2).symm.trans h
      simp only [VW.down, Nat.reduceEqDiff, reduceCtorEq, Nat.reduceAdd, Nat.reduceLeDiff, Nat.reduceLT, Nat.reduceBEq, Nat.reduceSub, EE.down]
      obtain rfl := Option.some.inj h
      exact eM [some 0, some 1] rfl
  · rintro _ rfl
    clear ho
    simp only [VW.down, Nat.reduceEqDiff, reduceCtorEq, Nat.reduceAdd, Nat.reduceLeDiff, Nat.reduceLT, Nat.reduceBEq, Nat.reduceSub, EE.down]
    refine condB (fun c3 => ?_) (fun c3 => ?_)
    · have h := (if_pos c3).symm.trans h
      simp only [VW.down, Nat.reduceEqDiff, reduceCtorEq, Nat.reduceAdd, Nat.reduceLeDiff, Nat.reduceLT, Nat.reduceBEq, Nat.reduceSub, EE.down]
      obtain rfl := Option.some.inj h
      exact eF [some 0]
    · have h := (if_neg c3).symm.trans h
      simp only [VW.down, Nat.reduceEqDiff, reduceCtorEq, Nat.reduceAdd, Nat.reduceLeDiff, Nat.reduceLT, Nat.reduceBEq, Nat.reduceSub, EE.down]
      obtain ⟨t4, ht4, h⟩ := Option.bind_eq_some_iff.1 h
      refine callX_bor (F36_ok ht4) (by simp only [borAs, bors, hp, List.getElem?_cons_zero, List.getElem?_cons_succ, Option.join_some, List.drop_zero, bor_full', true_and, Nat.zero_add, List.length_map, Nat.le_refl, nrm, List.length_cons, List.length_nil, Nat.reduceAdd, Nat.reduceLeDiff, List.take_succ_cons, List.take_zero, List.take_nil, List.map_cons, List.map_nil, List.length_set, EE.down]) rfl ?_
      simp only [VW.down, Nat.reduceEqDiff, reduceCtorEq, Nat.reduceAdd, Nat.reduceLeDiff, Nat.reduceLT, Nat.reduceBEq, Nat.reduceSub, EE.down]
      refine t_bslice (enc := eExpectation) (ys := [x1]) rfl rfl (by simp [A1.cells]) (by first | rfl | (simp only [List.drop_zero, take_mapL]; rfl)) ?_
      simp only [VW.down, Nat.reduceEqDiff, reduceCtorEq, Nat.reduceAdd, Nat.reduceLeDiff, Nat.reduceLT, Nat.reduceBEq, Nat.reduceSub, EE.down]
      obtain ⟨t5, ht5, h⟩ := Option.bind_eq_some_iff.1 h
      refine callX_n [0, 2] (F39_ok (e0 := e0) (e1 := 0) ht5) ?_ ?_ ?_ ?_ ?_ ?_
      · first | rfl | simp [nrmA, nrmC, nrm, A1.ren, C.ren, rn, List.length_set]
      · simp [liveAll, A1.live, C.live, hp]
      · rfl
      · decide
      · exact ⟨⟨rfl, trivial⟩, ⟨⟨rfl, trivial⟩, trivial⟩⟩
      simp only [VW.down, Nat.reduceEqDiff, reduceCtorEq, Nat.reduceAdd, Nat.reduceLeDiff, Nat.reduceLT, Nat.reduceBEq, Nat.reduceSub, EE.down]
      obtain rfl := Option.some.inj h
      exact eF [some 0]

/- orchestrator/expect.Want -/
def F10 (x0 : (List Expectation)) (x1 : ByteArray) (x2 : Int) (x3 : (List ByteArray)) (x4 : Int) : Option ((List Expectation)) := (F22 x0 x1).bind fun t1 => (F25 x3).bind fun t2 => (F24 x3).bind fun t3 => (compI t3).bind fun t4 => (F26 t1.1 ((⟨x1, (if 1000000000000000 < (if x2 < 0 then 0 else x2) then 1000000000000000 else (if x2 < 0 then 0 else x2)), t4, (if 1000000000000 < (if x4 < 0 then 0 else x4) then 1000000000000 else (if x4 < 0 then 0 else x4))⟩ : Expectation))).bind fun t5 => some t5
def a10 : AFn := ⟨37, [(.tmp 10)],
 (.seq (.reg [⟨(some 10), none, .mv kN, [], (.new [])⟩])
 (.seq (.reg [⟨(some 16), none, .mv (.t 0), [], (.new [])⟩,
   ⟨(some 17), none, .mv (.t 1), [], (.new [])⟩,
   ⟨(some 18), none, .call 22 [(.t 16), (.t 17)], [], (.new [])⟩,
   ⟨(some 15), none, .mv (.t 18), [], (.new [])⟩,
   ⟨(some 19), none, .ext (.t 15) 0, [], (.new [])⟩,
   ⟨(some 20), none, .ext (.t 15) 1, [], (.new [])⟩,
   ⟨(some 21), none, .ext (.t 15) 2, [], (.new [])⟩,
   ⟨(some 12), none, .zbox [.d (.v (.string ⟨#[]⟩)), .d (.v (.int .i64 0)), .d (.v (.slice none 0 0)), .d (.v (.int .i64 0))], [], (.new [])⟩,
   ⟨(some 11), none, .mv (.t 19), [], (.new [])⟩,
   ⟨none, none, .store 4 (.t 12) (.t 20), [], (.new [])⟩,
   ⟨(some 13), none, .mv (.t 21), [], (.new [])⟩])
 (.seq (.reg [⟨(some 22), none, .mv (.t 3), [], (.new [])⟩,
   ⟨(some 23), none, .call 25 [(.t 22)], [], (.new [])⟩,
   ⟨(some 24), none, .call 24 [(.t 23)], [], (.new [])⟩,
   ⟨(some 25), none, .call 23 [(.t 24)], [], (.new [])⟩,
   ⟨(some 14), none, .mv (.t 25), [], (.new [])⟩])
 (.seq (.reg [⟨(some 26), none, .mv (.t 11), [], (.new [])⟩,
   ⟨(some 27), none, .mv (.t 1), [], (.new [])⟩,
   ⟨(some 28), none, .mv (.t 2), [], (.new [])⟩,
   ⟨(some 29), none, .max (.t 28) (kI 0), [], (.new [])⟩,
   ⟨(some 30), none, .min (.t 29) (kI 1000000000000000), [], (.new [])⟩,
   ⟨(some 31), none, .mv (.t 14), [], (.new [])⟩,
   ⟨(some 32), none, .mv (.t 4), [], (.new [])⟩,
   ⟨(some 33), none, .max (.t 32) (kI 0), [], (.new [])⟩,
   ⟨(some 34), none, .min (.t 33) (kI 1000000000000), [], (.new [])⟩,
   ⟨(some 35), none, .build [.d (.v (.string ⟨#[]⟩)), .d (.v (.int .i64 0)), .d (.v (.slice none 0 0)), .d (.v (.int .i64 0))] [(0, 1, (.t 27)), (1, 1, (.t 30)), (2, 1, (.t 31)), (3, 1, (.t 34))], [], (.new [])⟩,
   ⟨(some 36), none, .call 26 [(.t 26), (.t 35)], [], (.new [])⟩,
   ⟨(some 10), none, .mv (.t 36), [], (.new [])⟩])
 .ret))))⟩
theorem a10_ok : afn Try.prog 10 = some a10.er := by kernel_rfl
theorem F10_ok {x0 : (List Expectation)} {x1 : ByteArray} {x2 : Int} {x3 : (List ByteArray)} {x4 : Int} {r : (List Expectation)} (h : F10 x0 x1 x2 x3 x4 = some r) : CallD Try.prog 10 [.c (.d (.sl (x0.map eExpectation))), .c (.d (.v (.string x1))), .c (.d (.v (.int .i64 x2))), .c (.d (.sl (x3.map eS))), .c (.d (.v (.int .i64 x4)))] [] (tupV [.c (.own 0 0 0 (r.length) none)]) [some (.arr 0 4 (r.map eExpectation))] := by
  refine callS a10_ok (by simp [a10]) ?_
  rw [F10] at h
  simp only [a10, VW.down, Nat.reduceEqDiff, reduceCtorEq, Nat.reduceAdd, Nat.reduceLeDiff, Nat.reduceLT, Nat.reduceBEq, Nat.reduceSub, EE.down]
  obtain ⟨t1, ht1, h⟩ := Option.bind_eq_some_iff.1 h
  refine callX_n [] (F22_ok ht1) ?_ ?_ ?_ ?_ ?_ ?_
  · first | rfl | simp [nrmA, nrmC, nrm, A1.ren, C.ren, rn, List.length_set]
  · simp [liveAll, A1.live, C.live]
  · rfl
  · decide
  · exact trivial
  simp only [VW.down, Nat.reduceEqDiff, reduceCtorEq, Nat.reduceAdd, Nat.reduceLeDiff, Nat.reduceLT, Nat.reduceBEq, Nat.reduceSub, EE.down]
  obtain ⟨t2, ht2, h⟩ := Option.bind_eq_some_iff.1 h
  refine callX_n [] (F25_ok ht2) ?_ ?_ ?_ ?_ ?_ ?_
  · first | rfl | simp [nrmA, nrmC, nrm, A1.ren, C.ren, rn, List.length_set]
  · simp [liveAll, A1.live, C.live]
  · rfl
  · decide
  · exact trivial
  simp only [VW.down, Nat.reduceEqDiff, reduceCtorEq, Nat.reduceAdd, Nat.reduceLeDiff, Nat.reduceLT, Nat.reduceBEq, Nat.reduceSub, EE.down]
  obtain ⟨t3, ht3, h⟩ := Option.bind_eq_some_iff.1 h
  refine callX_n [3] (F24_ok ht3) ?_ ?_ ?_ ?_ ?_ ?_
  · first | rfl | simp [nrmA, nrmC, nrm, A1.ren, C.ren, rn, List.length_set]
  · simp [liveAll, A1.live, C.live, hp]
  · rfl
  · decide
  · exact ⟨⟨rfl, by simp [Blk.live, C.live, hp]⟩, trivial⟩
  simp only [VW.down, Nat.reduceEqDiff, reduceCtorEq, Nat.reduceAdd, Nat.reduceLeDiff, Nat.reduceLT, Nat.reduceBEq, Nat.reduceSub, EE.down]
  obtain ⟨t4, ht4, h⟩ := Option.bind_eq_some_iff.1 h
  refine callX_n [4] (F23_ok (e0 := 0) ht4) ?_ ?_ ?_ ?_ ?_ ?_
  · first | rfl | simp [nrmA, nrmC, nrm, A1.ren, C.ren, rn, List.length_set]
  · simp [liveAll, A1.live, C.live, hp]
  · rfl
  · decide
  · exact ⟨⟨rfl, trivial⟩, trivial⟩
  simp only [VW.down, Nat.reduceEqDiff, reduceCtorEq, Nat.reduceAdd, Nat.reduceLeDiff, Nat.reduceLT, Nat.reduceBEq, Nat.reduceSub, EE.down]
  obtain ⟨t5, ht5, h⟩ := Option.bind_eq_some_iff.1 h
  refine callX_gen (as1 := [.c (.own 0 0 0 (t1.1.length) none), .agg [.d (.v (.string x1)), .d (.v (.int .i64 ((if 1000000000000000 < (if x2 < 0 then 0 else x2) then 1000000000000000 else (if x2 < 0 then 0 else x2))))), .d (.sl (t4.map eS)), .d (.v (.int .i64 ((if 1000000000000 < (if x4 < 0 then 0 else x4) then 1000000000000 else (if x4 < 0 then 0 else x4)))))]]) [(4, .arr 2 1 [])] [some 0, some 1, some 2, some 3, none] [0] (F26_ok (e0 := 0) ht5) ⟨?_, rfl, ?_⟩ ?_ ?_ ?_ ?_ ?_ ?_ ?_ ?_
  · simp only [ZZ.down, Nat.reduceEqDiff, reduceCtorEq, Nat.reduceAdd, Nat.reduceLeDiff, Nat.reduceLT, Nat.reduceBNe, EE.down]
  · simp only [ZZ.down, Nat.reduceEqDiff, reduceCtorEq, Nat.reduceAdd, Nat.reduceLeDiff, Nat.reduceLT, Nat.reduceBNe, EE.down]
  · simp only [ZZ.down, Nat.reduceEqDiff, reduceCtorEq, Nat.reduceAdd, Nat.reduceLeDiff, Nat.reduceLT, Nat.reduceBNe, EE.down]
  · rfl
  · rfl
  · simp [liveAll, A1.live, C.live, hp]
  · rfl
  · decide
  · exact ⟨⟨rfl, trivial⟩, trivial⟩
  simp only [VW.down, Nat.reduceEqDiff, reduceCtorEq, Nat.reduceAdd, Nat.reduceLeDiff, Nat.reduceLT, Nat.reduceBEq, Nat.reduceSub, EE.down]
  obtain rfl := Option.some.inj h
  exact eF [some 0]

/- orchestrator/expect.Created -/
def F12 (x0 : (List Expectation)) (x1 : ByteArray) : Option ((List Expectation)) := (F22 x0 x1).bind fun t1 => (if (nb t1.2.2.2.2.2) = true then some t1.1 else (F26 t1.1 ((⟨t1.2.1, (if (IntKind.i64.wrap (t1.2.2.1 - 1)) < 0 then 0 else (IntKind.i64.wrap (t1.2.2.1 - 1))), t1.2.2.2.1, t1.2.2.2.2.1⟩ : Expectation))).bind fun t3 => some t3)
def a12 : AFn := ⟨26, [(.tmp 4)],
 (.seq (.reg [⟨(some 4), none, .mv kN, [], (.new [])⟩])
 (.seq (.reg [⟨(some 9), none, .mv (.t 0), [], (.new [])⟩,
   ⟨(some 10), none, .mv (.t 1), [], (.new [])⟩,
   ⟨(some 11), none, .call 22 [(.t 9), (.t 10)], [], (.new [])⟩,
   ⟨(some 8), none, .mv (.t 11), [], (.new [])⟩,
   ⟨(some 12), none, .ext (.t 8) 0, [], (.new [])⟩,
   ⟨(some 13), none, .ext (.t 8) 1, [], (.new [])⟩,
   ⟨(some 14), none, .ext (.t 8) 2, [], (.new [])⟩,
   ⟨(some 6), none, .zbox [.d (.v (.string ⟨#[]⟩)), .d (.v (.int .i64 0)), .d (.v (.slice none 0 0)), .d (.v (.int .i64 0))], [], (.new [])⟩,
   ⟨(some 5), none, .mv (.t 12), [], (.new [])⟩,
   ⟨none, none, .store 4 (.t 6) (.t 13), [], (.new [])⟩,
   ⟨(some 7), none, .mv (.t 14), [], (.new [])⟩])
 (.seq (.seq (.reg [⟨(some 15), none, .mv (.t 7), [], (.new [])⟩,
   ⟨(some 16), none, .not (.t 15), [], (.new [])⟩])
 (.cond (.t 16)
 (.seq (.reg [⟨(some 17), none, .mv (.t 5), [], (.new [])⟩,
   ⟨(some 4), none, .mv (.t 17), [], (.new [])⟩])
 .ret)
 .skip))
 (.seq (.reg [⟨(some 18), none, .fieldA 1 (.t 6), [], (.new [])⟩,
   ⟨(some 19), none, .load none (.t 18), [], (.new [])⟩,
   ⟨(some 20), none, .bin .sub (.t 19) (kI 1), [], (.new [])⟩,
   ⟨(some 21), none, .max (.t 20) (kI 0), [], (.new [])⟩,
   ⟨(some 22), none, .fieldA 1 (.t 6), [], (.new [])⟩,
   ⟨none, none, .store 1 (.t 22) (.t 21), [], (.lone [6, 18, 6])⟩])
 (.seq (.reg [⟨(some 23), none, .mv (.t 5), [], (.new [])⟩,
   ⟨(some 24), none, .load (some 4) (.t 6), [], (.new [])⟩,
   ⟨(some 25), none, .call 26 [(.t 23), (.t 24)], [], (.new [])⟩,
   ⟨(some 4), none, .mv (.t 25), [], (.new [])⟩])
 .ret)))))⟩
theorem a12_ok : afn Try.prog 12 = some a12.er := by kernel_rfl
theorem F12_ok {x0 : (List Expectation)} {x1 : ByteArray} {r : (List Expectation)} (h : F12 x0 x1 = some r) : CallD Try.prog 12 [.c (.d (.sl (x0.map eExpectation))), .c (.d (.v (.string x1)))] [] (tupV [.c (.own 0 0 0 (r.length) none)]) [some (.arr 0 4 (r.map eExpectation))] := by
  refine callS a12_ok (by simp [a12]) ?_
  rw [F12] at h
  simp only [a12, VW.down, Nat.reduceEqDiff, reduceCtorEq, Nat.reduceAdd, Nat.reduceLeDiff, Nat.reduceLT, Nat.reduceBEq, Nat.reduceSub, EE.down]
  obtain ⟨t1, ht1, h⟩ := Option.bind_eq_some_iff.1 h
  refine callX_n [] (F22_ok ht1) ?_ ?_ ?_ ?_ ?_ ?_
  · first | rfl | simp [nrmA, nrmC, nrm, A1.ren, C.ren, rn, List.length_set]
  · simp [liveAll, A1.live, C.live]
  · rfl
  · decide
  · exact trivial
  simp only [VW.down, Nat.reduceEqDiff, reduceCtorEq, Nat.reduceAdd, Nat.reduceLeDiff, Nat.reduceLT, Nat.reduceBEq, Nat.reduceSub, EE.down]
  refine condB (fun c2 => ?_) (fun c2 => ?_)
  · have h := (if_pos c2).symm.trans h
    simp only [VW.down, Nat.reduceEqDiff, reduceCtorEq, Nat.reduceAdd, Nat.reduceLeDiff, Nat.reduceLT, Nat.reduceBEq, Nat.reduceSub, EE.down]
    obtain rfl := Option.some.inj h
    exact eF [some 0]
  · have h := (if_neg c2).symm.trans h
    simp only [VW.down, Nat.reduceEqDiff, reduceCtorEq, Nat.reduceAdd, Nat.reduceLeDiff, Nat.reduceLT, Nat.reduceBEq, Nat.reduceSub, EE.down]
    obtain ⟨t3, ht3, h⟩ := Option.bind_eq_some_iff.1 h
    refine callX_gen (as1 := [.c (.own 0 0 0 (t1.1.length) none), .agg [.d (.v (.string t1.2.1)), .d (.v (.int .i64 ((if (IntKind.i64.wrap (t1.2.2.1 - 1)) < 0 then 0 else (IntKind.i64.wrap (t1.2.2.1 - 1)))))), .d (.sl (t1.2.2.2.1.map eS)), .d (.v (.int .i64 t1.2.2.2.2.1))]]) [(1, .arr 1 1 []), (2, .box [.d (.v (.string t1.2.1)), .d (.v (.int .i64 ((if (IntKind.i64.wrap (t1.2.2.1 - 1)) < 0 then 0 else (IntKind.i64.wrap (t1.2.2.1 - 1)))))), .own 1 0 0 0 (some 0), .d (.v (.int .i64 t1.2.2.2.2.1))])] [some 0, none, some 2] [0] (F26_ok (e0 := 0) ht3) ⟨?_, rfl, ?_⟩ ?_ ?_ ?_ ?_ ?_ ?_ ?_ ?_
    · simp only [ZZ.down, Nat.reduceEqDiff, reduceCtorEq, Nat.reduceAdd, Nat.reduceLeDiff, Nat.reduceLT, Nat.reduceBNe, EE.down]
    · simp only [ZZ.down, Nat.reduceEqDiff, reduceCtorEq, Nat.reduceAdd, Nat.reduceLeDiff, Nat.reduceLT, Nat.reduceBNe, EE.down]
    · simp only [ZZ.down, Nat.reduceEqDiff, reduceCtorEq, Nat.reduceAdd, Nat.reduceLeDiff, Nat.reduceLT, Nat.reduceBNe, EE.down]
    · rfl
    · rfl
    · simp [liveAll, A1.live, C.live, hp]
    · rfl
    · decide
    · exact ⟨⟨rfl, trivial⟩, trivial⟩
    simp only [VW.down, Nat.reduceEqDiff, reduceCtorEq, Nat.reduceAdd, Nat.reduceLeDiff, Nat.reduceLT, Nat.reduceBEq, Nat.reduceSub, EE.down]
    obtain rfl := Option.some.inj h
    exact eF [some 0]

/- orchestrator/expect.Deleted$1 -/
def F31 (x0 : ByteArray) (b0 : ByteArray) : Option (Unit) := some (())
def a31 : AFn := ⟨7, [(.tmp 3)],
 (.seq (.reg [⟨(some 3), none, .mv (kB false), [], (.new [])⟩])
 (.seq (.reg [⟨(some 4), none, .mv (.t 0), [], (.new [])⟩,
   ⟨(some 5), none, .load none (.t 1), [], (.new [])⟩,
   ⟨(some 6), none, .bin .eql (.t 4) (.t 5), [], (.new [])⟩,
   ⟨(some 3), none, .mv (.t 6), [], (.new [])⟩])
 .ret))⟩
theorem a31_ok : afn Try.prog 31 = some a31.er := by kernel_rfl
theorem F31_ok {x0 : ByteArray} {b0 : ByteArray} {r : Unit} (h : F31 x0 b0 = some r) : CallD Try.prog 31 [.c (.d (.v (.string x0))), .c (.pt 0 0)] [some (.box [.d (.v (.string b0))])] (tupV [.c (.d (.v (.bool (decide (x0 = b0)))))]) [some (.box [.d (.v (.string b0))])] := by
  refine callS a31_ok (by simp [a31]) ?_
  rw [F31] at h
  simp only [a31, VW.down, Nat.reduceEqDiff, reduceCtorEq, Nat.reduceAdd, Nat.reduceLeDiff, Nat.reduceLT, Nat.reduceBEq, Nat.reduceSub, EE.down]
  obtain rfl := Option.some.inj h
  exact eF [some 0]

/- slices.IndexFunc[[]string,string] -/
def F40_l1 (b1 : ByteArray) (x0 : (List ByteArray)) : List ByteArray → Nat → Option ((Int) ⊕ (Unit))
  | [], o1_0 => some (Sum.inr (()))
  | xo1 :: xs, o1_0 => (rdI x0 ((o1_0 : Int))).bind fun y3 => (F31 y3 b1).bind fun t4 => (if y3 = b1 then (some ((o1_0 : Int))).map Sum.inl else F40_l1 b1 x0 xs (o1_0 + 1))
def F40 (x0 : (List ByteArray)) (b1 : ByteArray) : Option (Int) := (((ck (0 ≤ x0.length ∧ x0.length ≤ 4294967290)).bind fun u6 => F40_l1 b1 x0 x0 0).bind fun o1 => match o1 with | Sum.inl f => some f | Sum.inr po1 => some ((-1)))
def a40 : AFn := ⟨19, [(.tmp 4)],
 (.seq (.reg [⟨(some 4), none, .mv (kI 0), [], (.new [])⟩])
 (.seq (.seq (.reg [⟨(some 6), none, .mv (.t 0), [], (.new [])⟩,
   ⟨(some 7), none, .len (.t 6), [], (.new [])⟩,
   ⟨(some 8), none, .mv (kI 0), [], (.new [])⟩])
 (.sem (.block 0 (.loop (.seq (.reg [⟨(some 9), none, .bin .lss (.t 8) (.t 7), [], (.new [])⟩])
 (.seq (.cond (.t 9)
 .skip
 (.exit 0))
 (.seq (.block 1 (.seq (.reg [⟨(some 10), none, .mv (.t 8), [], (.new [])⟩,
   ⟨(some 5), none, .mv (.t 10), [], (.new [])⟩])
 (.seq (.reg [⟨(some 11), none, .mv (.t 1), [], (.new [])⟩,
   ⟨(some 12), none, .mv (.t 0), [], (.new [])⟩,
   ⟨(some 13), none, .mv (.t 5), [], (.new [])⟩,
   ⟨(some 14), none, .indexA 1 (.t 12) (.t 13), [], (.new [])⟩,
   ⟨(some 15), none, .load none (.t 14), [], (.new [])⟩,
   ⟨(some 16), none, .callv (.t 11) [(.t 15)], [], (.lone [12, 14])⟩])
 (.cond (.t 16)
 (.seq (.reg [⟨(some 17), none, .mv (.t 5), [], (.new [])⟩,
   ⟨(some 4), none, .mv (.t 17), [], (.new [])⟩])
 .ret)
 .skip))))
 (.reg [⟨(some 18), none, .bin .add (.t 8) (kI 1), [], (.new [])⟩,
   ⟨(some 8), none, .mv (.t 18), [], (.new [])⟩]))))))))
 (.seq (.reg [⟨(some 4), none, .mv (kI (-1)), [], (.new [])⟩])
 .ret)))⟩
theorem a40_ok : afn Try.prog 40 = some a40.er := by kernel_rfl
theorem F40_ok {x0 : (List ByteArray)} {b1 : ByteArray} {r : Int} {e0 : Nat} (h : F40 x0 b1 = some r) : CallD Try.prog 40 [.c (.own 0 e0 0 (x0.length) none), .c (.fn 31 [(1, 0)])] [some (.arr e0 1 (x0.map eS)), some (.box [.d (.v (.string b1))])] (tupV [.c (.d (.v (.int .i64 r)))]) [some (.arr e0 1 (x0.map eS)), some (.box [.d (.v (.string b1))])] := by
  refine callS a40_ok (by simp [a40]) ?_
  rw [F40] at h
  simp only [a40, VW.down, Nat.reduceEqDiff, reduceCtorEq, Nat.reduceAdd, Nat.reduceLeDiff, Nat.reduceLT, Nat.reduceBEq, Nat.reduceSub, EE.down]
  obtain ⟨o1, ho, h⟩ := Option.bind_eq_some_iff.1 h
  refine cutS (fun s => ∃ po1, o1 = Sum.inr po1 ∧ s = ⟨[], [some (.arr e0 1 (x0.map eS)), some (.box [.d (.v (.string b1))])]⟩) ?_ ?_
  · have h0o1 := h
    have h := ho
    clear ho
    obtain ⟨_, hk, h⟩ := Option.bind_eq_some_iff.1 h
    have hk := ck_some hk
    simp only [VW.down, Nat.reduceEqDiff, reduceCtorEq, Nat.reduceAdd, Nat.reduceLeDiff, Nat.reduceLT, Nat.reduceBEq, Nat.reduceSub, EE.down]
    refine bL (fun j s => ∃ (o1_0 : Nat), (o1_0 ≤ x0.length ∧ j = x0.length - o1_0) ∧ s = ⟨[(0, .one (.c (.own 0 e0 0 (x0.length) none))), (1, .one (.c (.fn 31 [(1, 0)]))), (7, .one (.c (.d (.v (.int .i64 ((x0.length : Int))))))), (8, .one (.c (.d (.v (.int .i64 ((o1_0 : Int)))))))], [some (.arr e0 1 (x0.map eS)), some (.box [.d (.v (.string b1))])]⟩ ∧ F40_l1 b1 x0 (x0.drop o1_0) o1_0 = some o1) (x0.length - 0) [some 0, some 1] ⟨0, ⟨hk.1, rfl⟩, rfl, h⟩ ?_
    rintro _ _ ⟨o1_0, ⟨hi, rfl⟩, rfl, h⟩
    simp only [VW.down, Nat.reduceEqDiff, reduceCtorEq, Nat.reduceAdd, Nat.reduceLeDiff, Nat.reduceLT, Nat.reduceBEq, Nat.reduceSub, EE.down]
    refine condS (fun c2 => ?_) (fun c2 => ?_)
    · obtain ⟨xo1, hxo1, hd⟩ := countY (show (o1_0 : Int) < (x0.length : Int) from c2)
      rw [hd, F40_l1] at h
      simp only [VW.down, Nat.reduceEqDiff, reduceCtorEq, Nat.reduceAdd, Nat.reduceLeDiff, Nat.reduceLT, Nat.reduceBEq, Nat.reduceSub, EE.down]
      obtain ⟨y3, hy3, h⟩ := Option.bind_eq_some_iff.1 h
      refine t_idxO (enc := eS) (xs := x0) rfl rfl rfl (by first | rfl | simp only [List.length_set] | exact (clrL_len (slI_len (by assumption))).symm) hy3 ?_
      simp only [VW.down, Nat.reduceEqDiff, reduceCtorEq, Nat.reduceAdd, Nat.reduceLeDiff, Nat.reduceLT, Nat.reduceBEq, Nat.reduceSub, EE.down]
      refine LdRow.rd (rdI_some hy3).2.1 ?_
      simp only [VW.down, Nat.reduceEqDiff, reduceCtorEq, Nat.reduceAdd, Nat.reduceLeDiff, Nat.reduceLT, Nat.reduceBEq, Nat.reduceSub, EE.down]
      obtain ⟨t4, ht4, h⟩ := Option.bind_eq_some_iff.1 h
      refine callX_n [1] (F31_ok ht4) ?_ ?_ ?_ ?_ ?_ ?_
      · first | rfl | simp [nrmA, nrmC, nrm, A1.ren, C.ren, rn, List.length_set]
      · simp [liveAll, A1.live, C.live, hp]
      · rfl
      · decide
      · exact ⟨⟨rfl, by simp [Blk.live, C.live, hp]⟩, trivial⟩
      simp only [VW.down, Nat.reduceEqDiff, reduceCtorEq, Nat.reduceAdd, Nat.reduceLeDiff, Nat.reduceLT, Nat.reduceBEq, Nat.reduceSub, EE.down]
      refine condS (fun c5 => ?_) (fun c5 => ?_)
      · have h := (if_pos c5).symm.trans h
        simp only [VW.down, Nat.reduceEqDiff, reduceCtorEq, Nat.reduceAdd, Nat.reduceLeDiff, Nat.reduceLT, Nat.reduceBEq, Nat.reduceSub, EE.down]
        obtain ⟨fh0o1, hfh0o1, rfl⟩ := Option.map_eq_some_iff.1 h
        have h := hfh0o1.trans h0o1
        obtain rfl := Option.some.inj h
        exact eF [some 0, some 1]
      · have h := (if_neg c5).symm.trans h
        simp only [VW.down, Nat.reduceEqDiff, reduceCtorEq, Nat.reduceAdd, Nat.reduceLeDiff, Nat.reduceLT, Nat.reduceBEq, Nat.reduceSub, EE.down]
        rw [wrapN (by omega)]
        exact eL' (x0.length - (o1_0 + 1)) [some 0, some 1] ⟨o1_0 + 1, ⟨by omega, rfl⟩, rfl, h⟩ (by omega)
    · rw [countN (show ¬ ((o1_0 : Int) < (x0.length : Int)) from c2), F40_l1] at h
      simp only [VW.down, Nat.reduceEqDiff, reduceCtorEq, Nat.reduceAdd, Nat.reduceLeDiff, Nat.reduceLT, Nat.reduceBEq, Nat.reduceSub, EE.down]
      obtain rfl := Option.some.inj h
      exact eM [some 0, some 1] ⟨_, rfl, rfl⟩
  · rintro _ ⟨po1, rfl, rfl⟩
    clear ho
    dsimp only at h
    simp only [VW.down, Nat.reduceEqDiff, reduceCtorEq, Nat.reduceAdd, Nat.reduceLeDiff, Nat.reduceLT, Nat.reduceBEq, Nat.reduceSub, EE.down]
    obtain rfl := Option.some.inj h
    exact eF [some 0, some 1]

/- slices.DeleteFunc[[]string,string] -/
def F30_l3 (b1 : ByteArray) : Nat → (List ByteArray) → Int → Int → Option ((List ByteArray) × Int)
  | 0, _, _, _ => none
  | k + 1, o3_0, o3_1, o3_2 => (if o3_2 < (o3_0.length : Int) then (((rdI o3_0 o3_2).bind fun y6 => (F31 y6 b1).bind fun t7 => (if ¬ (y6 = b1) then (rdI o3_0 o3_1).bind fun y9 => some (((o3_0.set o3_1.toNat y6), (IntKind.i64.wrap (o3_1 + 1)))) else some ((o3_0, o3_1)))).bind fun o5 => F30_l3 b1 k o5.1 o5.2 ((IntKind.i64.wrap (o3_2 + 1)))) else some ((o3_0, o3_1)))
def F30 (x0 : (List ByteArray)) (b1 : ByteArray) : Option ((List ByteArray)) := (F40 x0 b1).bind fun t1 => (if t1 = (-1) then some x0 else ((F30_l3 b1 1099511627776 x0 t1 ((IntKind.i64.wrap (t1 + 1)))).bind fun o3 => (slI o3.1 o3.2 ((o3.1.length : Int))).bind fun s10 => (slI ((clrL o3.1 o3.2.toNat s10.length ((⟨#[]⟩ : ByteArray)))) 0 o3.2).bind fun s11 => some s11))
def a30 : AFn := ⟨42, [(.tmp 4)],
 (.seq (.reg [⟨(some 4), none, .mv kN, [], (.new [])⟩])
 (.seq (.reg [⟨(some 8), none, .mv (.t 0), [], (.new [])⟩,
   ⟨(some 9), none, .mv (.t 1), [], (.new [])⟩,
   ⟨(some 10), none, .call 40 [(.t 8), (.t 9)], [], (.new [])⟩,
   ⟨(some 5), none, .mv (.t 10), [], (.new [])⟩])
 (.seq (.seq (.reg [⟨(some 11), none, .mv (.t 5), [], (.new [])⟩,
   ⟨(some 12), none, .bin .eql (.t 11) (kI (-1)), [], (.new [])⟩])
 (.cond (.t 12)
 (.seq (.reg [⟨(some 13), none, .mv (.t 0), [], (.new [])⟩,
   ⟨(some 4), none, .mv (.t 13), [], (.new [])⟩])
 .ret)
 .skip))
 (.seq (.seq (.reg [⟨(some 14), none, .mv (.t 5), [], (.new [])⟩,
   ⟨(some 15), none, .bin .add (.t 14) (kI 1), [], (.new [])⟩,
   ⟨(some 6), none, .mv (.t 15), [], (.new [])⟩])
 (.sem (.block 0 (.loop (.seq (.seq (.reg [⟨(some 16), none, .mv (.t 6), [], (.new [])⟩,
   ⟨(some 17), none, .mv (.t 0), [], (.new [])⟩,
   ⟨(some 18), none, .len (.t 17), [], (.new [])⟩,
   ⟨(some 19), none, .bin .lss (.t 16) (.t 18), [], (.new [])⟩])
 (.cond (.t 19)
 .skip
 (.exit 0)))
 (.seq (.sem (.block 1 (.seq (.reg [⟨(some 22), none, .mv (.t 0), [], (.new [])⟩,
   ⟨(some 23), none, .mv (.t 6), [], (.new [])⟩,
   ⟨(some 24), none, .indexA 1 (.t 22) (.t 23), [], (.new [])⟩,
   ⟨(some 25), none, .load none (.t 24), [], (.new [])⟩,
   ⟨(some 7), none, .mv (.t 25), [], (.new [])⟩])
 (.seq (.reg [⟨(some 26), none, .mv (.t 1), [], (.new [])⟩,
   ⟨(some 27), none, .mv (.t 7), [], (.new [])⟩,
   ⟨(some 28), none, .callv (.t 26) [(.t 27)], [], (.new [])⟩,
   ⟨(some 29), none, .not (.t 28), [], (.new [])⟩])
 (.cond (.t 29)
 (.seq (.reg [⟨(some 30), none, .mv (.t 0), [], (.new [])⟩,
   ⟨(some 31), none, .mv (.t 5), [], (.new [])⟩,
   ⟨(some 32), none, .mv (.t 7), [], (.new [])⟩,
   ⟨(some 33), none, .indexA 1 (.t 30) (.t 31), [], (.new [])⟩,
   ⟨none, none, .store 1 (.t 33) (.t 32), [], (.lone [30])⟩])
 (.reg [⟨(some 34), none, .mv (.t 5), [], (.new [])⟩,
   ⟨(some 35), none, .bin .add (.t 34) (kI 1), [], (.new [])⟩,
   ⟨(some 5), none, .mv (.t 35), [], (.new [])⟩]))
 .skip)))))
 (.reg [⟨(some 20), none, .mv (.t 6), [], (.new [])⟩,
   ⟨(some 21), none, .bin .add (.t 20) (kI 1), [], (.new [])⟩,
   ⟨(some 6), none, .mv (.t 21), [], (.new [])⟩])))))))
 (.seq (.reg [⟨(some 36), none, .mv (.t 0), [], (.new [])⟩,
   ⟨(some 37), none, .mv (.t 5), [], (.new [])⟩,
   ⟨(some 38), none, .slice 1 (.t 36) (some (.t 37)) none none, [], (.new [])⟩,
   ⟨none, none, .clear 1 [.v (.string ⟨#[]⟩)] (.t 38), [], (.new [])⟩])
 (.seq (.reg [⟨(some 39), none, .mv (.t 0), [], (.new [])⟩,
   ⟨(some 40), none, .mv (.t 5), [], (.new [])⟩,
   ⟨(some 41), none, .slice 1 (.t 39) none (some (.t 40)) none, [], (.new [])⟩,
   ⟨(some 4), none, .mv (.t 41), [], (.new [])⟩])
 .ret))))))⟩
theorem a30_ok : afn Try.prog 30 = some a30.er := by kernel_rfl
theorem F30_ok {x0 : (List ByteArray)} {b1 : ByteArray} {r : (List ByteArray)} {e0 : Nat} (h : F30 x0 b1 = some r) : CallD Try.prog 30 [.c (.own 0 e0 0 (x0.length) none), .c (.fn 31 [(1, 0)])] [some (.arr e0 1 (x0.map eS)), some (.box [.d (.v (.string b1))])] (tupV [.c (.own 0 (e0 + 1) 0 (r.length) none)]) [some (.arr (e0 + 1) 1 (r.map eS)), some (.box [.d (.v (.string b1))])] := by
  refine callS a30_ok (by simp [a30]) ?_
  rw [F30] at h
  simp only [a30, VW.down, Nat.reduceEqDiff, reduceCtorEq, Nat.reduceAdd, Nat.reduceLeDiff, Nat.reduceLT, Nat.reduceBEq, Nat.reduceSub, EE.down]
  obtain ⟨t1, ht1, h⟩ := Option.bind_eq_some_iff.1 h
  refine callX_n [0, 1] (F40_ok (e0 := e0) ht1) ?_ ?_ ?_ ?_ ?_ ?_
  · first | rfl | simp [nrmA, nrmC, nrm, A1.ren, C.ren, rn, List.length_set]
  · simp [liveAll, A1.live, C.live, hp]
  · rfl
  · decide
  · exact ⟨⟨rfl, trivial⟩, ⟨⟨rfl, by simp [Blk.live, C.live, hp]⟩, trivial⟩⟩
  simp only [VW.down, Nat.reduceEqDiff, reduceCtorEq, Nat.reduceAdd, Nat.reduceLeDiff, Nat.reduceLT, Nat.reduceBEq, Nat.reduceSub, EE.down]
  refine condS (fun c2 => ?_) (fun c2 => ?_)
  · have h := (if_pos c2).symm.trans h
    simp only [VW.down, Nat.reduceEqDiff, reduceCtorEq, Nat.reduceAdd, Nat.reduceLeDiff, Nat.reduceLT, Nat.reduceBEq, Nat.reduceSub, EE.down]
    obtain rfl := Option.some.inj h
    exact eF [some 0, some 1]
  · have h := (if_neg c2).symm.trans h
    simp only [VW.down, Nat.reduceEqDiff, reduceCtorEq, Nat.reduceAdd, Nat.reduceLeDiff, Nat.reduceLT, Nat.reduceBEq, Nat.reduceSub, EE.down]
    obtain ⟨o3, ho, h⟩ := Option.bind_eq_some_iff.1 h
    refine cutS (fun s => s = ⟨[(0, .one (.c (.own 0 e0 0 (o3.1.length) none))), (5, .one (.c (.d (.v (.int .i64 o3.2)))))], [some (.arr e0 1 (o3.1.map eS)), some (.box [.d (.v (.string b1))])]⟩) ?_ ?_
    · have h := ho
      clear ho
      simp only [VW.down, Nat.reduceEqDiff, reduceCtorEq, Nat.reduceAdd, Nat.reduceLeDiff, Nat.reduceLT, Nat.reduceBEq, Nat.reduceSub, EE.down]
      refine bL (fun j s => ∃ (o3_0 : List ByteArray) (o3_1 : Int) (o3_2 : Int), s = ⟨[(0, .one (.c (.own 0 e0 0 (o3_0.length) none))), (1, .one (.c (.fn 31 [(1, 0)]))), (5, .one (.c (.d (.v (.int .i64 o3_1))))), (6, .one (.c (.d (.v (.int .i64 o3_2)))))], [some (.arr e0 1 (o3_0.map eS)), some (.box [.d (.v (.string b1))])]⟩ ∧ F30_l3 b1 j o3_0 o3_1 o3_2 = some o3) 1099511627776 [some 0, some 1] ⟨x0, t1, (IntKind.i64.wrap (t1 + 1)), rfl, h⟩ ?_
      rintro j _ ⟨o3_0, o3_1, o3_2, rfl, h⟩
      cases j with
      | zero => cases (show (none : Option _) = some _ from h)
      | succ j =>
        rw [F30_l3] at h
        simp only [VW.down, Nat.reduceEqDiff, reduceCtorEq, Nat.reduceAdd, Nat.reduceLeDiff, Nat.reduceLT, Nat.reduceBEq, Nat.reduceSub, EE.down]
        refine condS (fun c4 => ?_) (fun c4 => ?_)
        · have h := (if_pos c4).symm.trans h
          simp only [VW.down, Nat.reduceEqDiff, reduceCtorEq, Nat.reduceAdd, Nat.reduceLeDiff, Nat.reduceLT, Nat.reduceBEq, Nat.reduceSub, EE.down]
          obtain ⟨o5, ho, h⟩ := Option.bind_eq_some_iff.1 h
          refine cutS (fun s => s = ⟨[(0, .one (.c (.own 0 e0 0 (o5.1.length) none))), (1, .one (.c (.fn 31 [(1, 0)]))), (5, .one (.c (.d (.v (.int .i64 o5.2))))), (6, .one (.c (.d (.v (.int .i64 o3_2)))))], [some (.arr e0 1 (o5.1.map eS)), some (.box [.d (.v (.string b1))])]⟩) ?_ ?_
          · have h := ho
            clear ho
            simp only [VW.down, Nat.reduceEqDiff, reduceCtorEq, Nat.reduceAdd, Nat.reduceLeDiff, Nat.reduceLT, Nat.reduceBEq, Nat.reduceSub, EE.down]
            obtain ⟨y6, hy6, h⟩ := Option.bind_eq_some_iff.1 h
            refine t_idxO (enc := eS) (xs := o3_0) rfl rfl rfl (by first | rfl | simp only [List.length_set] | exact (clrL_len (slI_len (by assumption))).symm) hy6 ?_
            simp only [VW.down, Nat.reduceEqDiff, reduceCtorEq, Nat.reduceAdd, Nat.reduceLeDiff, Nat.reduceLT, Nat.reduceBEq, Nat.reduceSub, EE.down]
            refine LdRow.rd (rdI_some hy6).2.1 ?_
            simp only [VW.down, Nat.reduceEqDiff, reduceCtorEq, Nat.reduceAdd, Nat.reduceLeDiff, Nat.reduceLT, Nat.reduceBEq, Nat.reduceSub, EE.down]
            obtain ⟨t7, ht7, h⟩ := Option.bind_eq_some_iff.1 h
            refine callX_n [1] (F31_ok ht7) ?_ ?_ ?_ ?_ ?_ ?_
            · first | rfl | simp [nrmA, nrmC, nrm, A1.ren, C.ren, rn, List.length_set]
            · simp [liveAll, A1.live, C.live, hp]
            · rfl
            · decide
            · exact ⟨⟨rfl, by simp [Blk.live, C.live, hp]⟩, trivial⟩
            simp only [VW.down, Nat.reduceEqDiff, reduceCtorEq, Nat.reduceAdd, Nat.reduceLeDiff, Nat.reduceLT, Nat.reduceBEq, Nat.reduceSub, EE.down]
            refine condS (fun c8 => ?_) (fun c8 => ?_)
            · have h := (if_pos c8).symm.trans h
              simp only [VW.down, Nat.reduceEqDiff, reduceCtorEq, Nat.reduceAdd, Nat.reduceLeDiff, Nat.reduceLT, Nat.reduceBEq, Nat.reduceSub, EE.down]
              obtain ⟨y9, hy9, h⟩ := Option.bind_eq_some_iff.1 h
              refine t_idxO (enc := eS) (xs := o3_0) rfl rfl rfl (by first | rfl | simp only [List.length_set] | exact (clrL_len (slI_len (by assumption))).symm) hy9 ?_
              simp only [VW.down, Nat.reduceEqDiff, reduceCtorEq, Nat.reduceAdd, Nat.reduceLeDiff, Nat.reduceLT, Nat.reduceBEq, Nat.reduceSub, EE.down]
              refine StRow.rd (y' := y6) (rdI_some hy9).2.1 (by simp [EE.down]) (by first | rfl | (simp only [bor_full']; rfl)) ?_
              simp only [VW.down, Nat.reduceEqDiff, reduceCtorEq, Nat.reduceAdd, Nat.reduceLeDiff, Nat.reduceLT, Nat.reduceBEq, Nat.reduceSub, EE.down]
              obtain rfl := Option.some.inj h
              exact eM [some 0, some 1] rfl
            · have h := (if_neg c8).symm.trans h
              simp only [VW.down, Nat.reduceEqDiff, reduceCtorEq, Nat.reduceAdd, Nat.reduceLeDiff, Nat.reduceLT, Nat.reduceBEq, Nat.reduceSub, EE.down]
              obtain rfl := Option.some.inj h
              exact eM [some 0, some 1] rfl
          · rintro _ rfl
            clear ho
            simp only [VW.down, Nat.reduceEqDiff, reduceCtorEq, Nat.reduceAdd, Nat.reduceLeDiff, Nat.reduceLT, Nat.reduceBEq, Nat.reduceSub, EE.down]
            exact eL' j [some 0, some 1] ⟨o5.1, o5.2, (IntKind.i64.wrap (o3_2 + 1)), rfl, h⟩ (Nat.lt_succ_self _)
        · have h := (if_neg c4).symm.trans h
          simp only [VW.down, Nat.reduceEqDiff, reduceCtorEq, Nat.reduceAdd, Nat.reduceLeDiff, Nat.reduceLT, Nat.reduceBEq, Nat.reduceSub, EE.down]
          obtain rfl := Option.some.inj h
          exact eM [some 0, some 1] rfl
    · rintro _ rfl
      clear ho
      simp only [VW.down, Nat.reduceEqDiff, reduceCtorEq, Nat.reduceAdd, Nat.reduceLeDiff, Nat.reduceLT, Nat.reduceBEq, Nat.reduceSub, EE.down]
      obtain ⟨s10, hs10, h⟩ := Option.bind_eq_some_iff.1 h
      refine t_sliceO (enc := eS) (xs := o3.1) rfl rfl (by first | rfl | simp only [List.length_set] | exact (clrL_len (slI_len (by assumption))).symm) rfl (by first | rfl | simp only [intV, List.length_set]) hs10 ?_
      simp only [VW.down, Nat.reduceEqDiff, reduceCtorEq, Nat.reduceAdd, Nat.reduceLeDiff, Nat.reduceLT, Nat.reduceBEq, Nat.reduceSub, EE.down]
      refine t_clear (enc := eS) (xs := o3.1) (z := (⟨#[]⟩ : ByteArray)) rfl rfl rfl (Nat.le_trans (Nat.le_add_right _ _) (slI_len hs10)) ?_
      simp only [VW.down, Nat.reduceEqDiff, reduceCtorEq, Nat.reduceAdd, Nat.reduceLeDiff, Nat.reduceLT, Nat.reduceBEq, Nat.reduceSub, EE.down]
      obtain ⟨s11, hs11, h⟩ := Option.bind_eq_some_iff.1 h
      refine t_sliceO (enc := eS) (xs := ((clrL o3.1 o3.2.toNat s10.length ((⟨#[]⟩ : ByteArray))))) rfl rfl (by first | rfl | simp only [List.length_set] | exact (clrL_len (slI_len (by assumption))).symm) rfl (by first | rfl | simp only [intV, List.length_set]) hs11 ?_
      simp only [VW.down, Nat.reduceEqDiff, reduceCtorEq, Nat.reduceAdd, Nat.reduceLeDiff, Nat.reduceLT, Nat.reduceBEq, Nat.reduceSub, EE.down]
      obtain rfl := Option.some.inj h
      exact eF [some 0, some 1] (hB := by simp only [ZZ.down, Nat.reduceEqDiff, reduceCtorEq, Nat.reduceAdd, Nat.reduceLeDiff, Nat.reduceLT, Nat.reduceBNe, EE.down, slI_pre hs11, slI_frz0 hs11, slI_le0 hs11]) (hs := by simp only [ZZ.down, Nat.reduceEqDiff, reduceCtorEq, Nat.reduceAdd, Nat.reduceLeDiff, Nat.reduceLT, Nat.reduceBNe, EE.down, slI_pre hs11, slI_frz0 hs11, slI_le0 hs11])

/- orchestrator/expect.Deleted -/
def F14 (x0 : (List Expectation)) (x1 : ByteArray) (x2 : ByteArray) : Option ((List Expectation)) := (F22 x0 x1).bind fun t1 => (if (nb t1.2.2.2.2.2) = true then some t1.1 else (F30 t1.2.2.2.1 x2).bind fun t3 => (F26 t1.1 ((⟨t1.2.1, t1.2.2.1, t3, t1.2.2.2.2.1⟩ : Expectation))).bind fun t4 => some t4)
def a14 : AFn := ⟨28, [(.tmp 6)],
 (.seq (.reg [⟨(some 5), none, .box (.t 2), [], (.new [])⟩,
   ⟨(some 6), none, .mv kN, [], (.new [])⟩])
 (.seq (.reg [⟨(some 11), none, .mv (.t 0), [], (.new [])⟩,
   ⟨(some 12), none, .mv (.t 1), [], (.new [])⟩,
   ⟨(some 13), none, .call 22 [(.t 11), (.t 12)], [], (.new [])⟩,
   ⟨(some 10), none, .mv (.t 13), [], (.new [])⟩,
   ⟨(some 14), none, .ext (.t 10) 0, [], (.new [])⟩,
   ⟨(some 15), none, .ext (.t 10) 1, [], (.new [])⟩,
   ⟨(some 16), none, .ext (.t 10) 2, [], (.new [])⟩,
   ⟨(some 8), none, .zbox [.d (.v (.string ⟨#[]⟩)), .d (.v (.int .i64 0)), .d (.v (.slice none 0 0)), .d (.v (.int .i64 0))], [], (.new [])⟩,
   ⟨(some 7), none, .mv (.t 14), [], (.new [])⟩,
   ⟨none, none, .store 4 (.t 8) (.t 15), [], (.new [])⟩,
   ⟨(some 9), none, .mv (.t 16), [], (.new [])⟩])
 (.seq (.seq (.reg [⟨(some 17), none, .mv (.t 9), [], (.new [])⟩,
   ⟨(some 18), none, .not (.t 17), [], (.new [])⟩])
 (.cond (.t 18)
 (.seq (.reg [⟨(some 19), none, .mv (.t 7), [], (.new [])⟩,
   ⟨(some 6), none, .mv (.t 19), [], (.new [])⟩])
 .ret)
 .skip))
 (.seq (.reg [⟨(some 20), none, .fieldA 2 (.t 8), [], (.new [])⟩,
   ⟨(some 21), none, .load none (.t 20), [], (.new [])⟩,
   ⟨(some 22), none, .fn 31 [(.t 5)], [], (.new [])⟩,
   ⟨(some 23), none, .call 30 [(.t 21), (.t 22)], [], (.new [])⟩,
   ⟨(some 24), none, .fieldA 2 (.t 8), [], (.new [])⟩,
   ⟨none, none, .store 1 (.t 24) (.t 23), [], (.new [])⟩])
 (.seq (.reg [⟨(some 25), none, .mv (.t 7), [], (.new [])⟩,
   ⟨(some 26), none, .load (some 4) (.t 8), [], (.new [])⟩,
   ⟨(some 27), none, .call 26 [(.t 25), (.t 26)], [], (.new [])⟩,
   ⟨(some 6), none, .mv (.t 27), [], (.new [])⟩])
 .ret)))))⟩
theorem a14_ok : afn Try.prog 14 = some a14.er := by kernel_rfl
theorem F14_ok {x0 : (List Expectation)} {x1 : ByteArray} {x2 : ByteArray} {r : (List Expectation)} (h : F14 x0 x1 x2 = some r) : CallD Try.prog 14 [.c (.d (.sl (x0.map eExpectation))), .c (.d (.v (.string x1))), .c (.d (.v (.string x2)))] [] (tupV [.c (.own 0 0 0 (r.length) none)]) [some (.arr 0 4 (r.map eExpectation))] := by
  refine callS a14_ok (by simp [a14]) ?_
  rw [F14] at h
  simp only [a14, VW.down, Nat.reduceEqDiff, reduceCtorEq, Nat.reduceAdd, Nat.reduceLeDiff, Nat.reduceLT, Nat.reduceBEq, Nat.reduceSub, EE.down]
  obtain ⟨t1, ht1, h⟩ := Option.bind_eq_some_iff.1 h
  refine callX_n [] (F22_ok ht1) ?_ ?_ ?_ ?_ ?_ ?_
  · first | rfl | simp [nrmA, nrmC, nrm, A1.ren, C.ren, rn, List.length_set]
  · simp [liveAll, A1.live, C.live]
  · rfl
  · decide
  · exact trivial
  simp only [VW.down, Nat.reduceEqDiff, reduceCtorEq, Nat.reduceAdd, Nat.reduceLeDiff, Nat.reduceLT, Nat.reduceBEq, Nat.reduceSub, EE.down]
  refine condB (fun c2 => ?_) (fun c2 => ?_)
  · have h := (if_pos c2).symm.trans h
    simp only [VW.down, Nat.reduceEqDiff, reduceCtorEq, Nat.reduceAdd, Nat.reduceLeDiff, Nat.reduceLT, Nat.reduceBEq, Nat.reduceSub, EE.down]
    obtain rfl := Option.some.inj h
    exact eF [some 1]
  · have h := (if_neg c2).symm.trans h
    simp only [VW.down, Nat.reduceEqDiff, reduceCtorEq, Nat.reduceAdd, Nat.reduceLeDiff, Nat.reduceLT, Nat.reduceBEq, Nat.reduceSub, EE.down]
    obtain ⟨t3, ht3, h⟩ := Option.bind_eq_some_iff.1 h
    refine callX_n [2, 0] (F30_ok (e0 := 0) ht3) ?_ ?_ ?_ ?_ ?_ ?_
    · first | rfl | simp [nrmA, nrmC, nrm, A1.ren, C.ren, rn, List.length_set]
    · simp [liveAll, A1.live, C.live, hp]
    · rfl
    · decide
    · exact ⟨⟨rfl, trivial⟩, ⟨⟨rfl, by simp [Blk.live, C.live, hp]⟩, trivial⟩⟩
    simp only [VW.down, Nat.reduceEqDiff, reduceCtorEq, Nat.reduceAdd, Nat.reduceLeDiff, Nat.reduceLT, Nat.reduceBEq, Nat.reduceSub, EE.down]
    obtain ⟨t4, ht4, h⟩ := Option.bind_eq_some_iff.1 h
    refine callX_gen (as1 := [.c (.own 1 0 0 (t1.1.length) none), .agg [.d (.v (.string t1.2.1)), .d (.v (.int .i64 t1.2.2.1)), .d (.sl (t3.map eS)), .d (.v (.int .i64 t1.2.2.2.2.1))]]) [(2, .arr 2 1 []), (3, .box [.d (.v (.string t1.2.1)), .d (.v (.int .i64 t1.2.2.1)), .own 2 1 0 0 (some 0), .d (.v (.int .i64 t1.2.2.2.2.1))])] [some 0, some 1, none, some 3] [1] (F26_ok (e0 := 0) ht4) ⟨?_, rfl, ?_⟩ ?_ ?_ ?_ ?_ ?_ ?_ ?_ ?_
    · simp only [ZZ.down, Nat.reduceEqDiff, reduceCtorEq, Nat.reduceAdd, Nat.reduceLeDiff, Nat.reduceLT, Nat.reduceBNe, EE.down]
    · simp only [ZZ.down, Nat.reduceEqDiff, reduceCtorEq, Nat.reduceAdd, Nat.reduceLeDiff, Nat.reduceLT, Nat.reduceBNe, EE.down]
    · simp only [ZZ.down, Nat.reduceEqDiff, reduceCtorEq, Nat.reduceAdd, Nat.reduceLeDiff, Nat.reduceLT, Nat.reduceBNe, EE.down]
    · rfl
    · rfl
    · simp [liveAll, A1.live, C.live, hp]
    · rfl
    · decide
    · exact ⟨⟨rfl, trivial⟩, trivial⟩
    simp only [VW.down, Nat.reduceEqDiff, reduceCtorEq, Nat.reduceAdd, Nat.reduceLeDiff, Nat.reduceLT, Nat.reduceBEq, Nat.reduceSub, EE.down]
    obtain rfl := Option.some.inj h
    exact eF [some 1]

/- orchestrator/orchestratorref32.Strings -/
def F21_l2 (x1 : (List ByteArray)) : List ByteArray → Nat → Option ((Bool) ⊕ (Unit))
  | [], o2_0 => some (Sum.inr (()))
  | xo2 :: xs, o2_0 => (rdI x1 ((o2_0 : Int))).bind fun y4 => (if ¬ (xo2 = y4) then (some false).map Sum.inl else F21_l2 x1 xs (o2_0 + 1))
def F21 (x0 : (List ByteArray)) (x1 : (List ByteArray)) : Option (Bool) := (if ¬ ((x0.length : Int) = (x1.length : Int)) then some false else (((ck (0 ≤ x0.length ∧ x0.length ≤ 4294967290)).bind fun u6 => F21_l2 x1 x0 0).bind fun o2 => match o2 with | Sum.inl f => some f | Sum.inr po2 => some true))
def a21 : AFn := ⟨26, [(.tmp 4)],
 (.seq (.reg [⟨(some 4), none, .mv (kB false), [], (.new [])⟩])
 (.seq (.seq (.reg [⟨(some 6), none, .mv (.t 0), [], (.new [])⟩,
   ⟨(some 7), none, .len (.t 6), [], (.new [])⟩,
   ⟨(some 8), none, .mv (.t 1), [], (.new [])⟩,
   ⟨(some 9), none, .len (.t 8), [], (.new [])⟩,
   ⟨(some 10), none, .bin .neq (.t 7) (.t 9), [], (.new [])⟩])
 (.cond (.t 10)
 (.seq (.reg [⟨(some 4), none, .mv (kB false), [], (.new [])⟩])
 .ret)
 .skip))
 (.seq (.seq (.reg [⟨(some 5), none, .mv (kI 0), [], (.new [])⟩])
 (.sem (.block 0 (.loop (.seq (.seq (.reg [⟨(some 11), none, .mv (.t 5), [], (.new [])⟩,
   ⟨(some 12), none, .mv (.t 0), [], (.new [])⟩,
   ⟨(some 13), none, .len (.t 12), [], (.new [])⟩,
   ⟨(some 14), none, .bin .lss (.t 11) (.t 13), [], (.new [])⟩])
 (.cond (.t 14)
 .skip
 (.exit 0)))
 (.seq (.block 1 (.seq (.regd [⟨(some 17), none, .mv (.t 0), [], (.new [])⟩,
   ⟨(some 18), none, .mv (.t 5), [], (.new [])⟩,
   ⟨(some 19), none, .indexA 1 (.t 17) (.t 18), [0, 1], (.new [])⟩,
   ⟨(some 20), none, .load none (.t 19), [0, 1, 2], (.new [])⟩,
   ⟨(some 21), none, .mv (.t 1), [], (.new [])⟩,
   ⟨(some 22), none, .mv (.t 5), [], (.new [])⟩,
   ⟨(some 23), none, .indexA 1 (.t 21) (.t 22), [4, 5], (.new [])⟩,
   ⟨(some 24), none, .load none (.t 23), [4, 5, 6], (.new [])⟩,
   ⟨(some 25), none, .bin .neq (.t 20) (.t 24), [0, 1, 2, 3, 4, 5, 6, 7], (.new [])⟩])
 (.cond (.t 25)
 (.seq (.reg [⟨(some 4), none, .mv (kB false), [], (.new [])⟩])
 .ret)
 .skip)))
 (.reg [⟨(some 15), none, .mv (.t 5), [], (.new [])⟩,
   ⟨(some 16), none, .bin .add (.t 15) (kI 1), [], (.new [])⟩,
   ⟨(some 5), none, .mv (.t 16), [], (.new [])⟩])))))))
 (.seq (.reg [⟨(some 4), none, .mv (kB true), [], (.new [])⟩])
 .ret))))⟩
theorem a21_ok : afn Try.prog 21 = some a21.er := by kernel_rfl
theorem F21_ok {x0 : (List ByteArray)} {x1 : (List ByteArray)} {r : Bool} (h : F21 x0 x1 = some r) : CallD Try.prog 21 [.c (.d (.sl (x0.map eS))), .c (.d (.sl (x1.map eS)))] [] (tupV [.c (.d (.v (.bool r)))]) [] := by
  refine callS a21_ok (by simp [a21]) ?_
  rw [F21] at h
  simp only [a21, VW.down, Nat.reduceEqDiff, reduceCtorEq, Nat.reduceAdd, Nat.reduceLeDiff, Nat.reduceLT, Nat.reduceBEq, Nat.reduceSub, EE.down]
  refine condS (fun c1 => ?_) (fun c1 => ?_)
  · have h := (if_pos c1).symm.trans h
    simp only [VW.down, Nat.reduceEqDiff, reduceCtorEq, Nat.reduceAdd, Nat.reduceLeDiff, Nat.reduceLT, Nat.reduceBEq, Nat.reduceSub, EE.down]
    obtain rfl := Option.some.inj h
    exact eF []
  · have h := (if_neg c1).symm.trans h
    simp only [VW.down, Nat.reduceEqDiff, reduceCtorEq, Nat.reduceAdd, Nat.reduceLeDiff, Nat.reduceLT, Nat.reduceBEq, Nat.reduceSub, EE.down]
    obtain ⟨o2, ho, h⟩ := Option.bind_eq_some_iff.1 h
    refine cutS (fun s => ∃ po2, o2 = Sum.inr po2 ∧ s = ⟨[], []⟩) ?_ ?_
    · have h0o2 := h
      have h := ho
      clear ho
      obtain ⟨_, hk, h⟩ := Option.bind_eq_some_iff.1 h
      have hk := ck_some hk
      simp only [VW.down, Nat.reduceEqDiff, reduceCtorEq, Nat.reduceAdd, Nat.reduceLeDiff, Nat.reduceLT, Nat.reduceBEq, Nat.reduceSub, EE.down]
      refine bL (fun j s => ∃ (o2_0 : Nat), (o2_0 ≤ x0.length ∧ j = x0.length - o2_0) ∧ s = ⟨[(0, .one (.c (.d (.sl (x0.map eS))))), (1, .one (.c (.d (.sl (x1.map eS))))), (5, .one (.c (.d (.v (.int .i64 ((o2_0 : Int)))))))], []⟩ ∧ F21_l2 x1 (x0.drop o2_0) o2_0 = some o2) (x0.length - 0) [] ⟨0, ⟨hk.1, rfl⟩, rfl, h⟩ ?_
      rintro _ _ ⟨o2_0, ⟨hi, rfl⟩, rfl, h⟩
      simp only [VW.down, Nat.reduceEqDiff, reduceCtorEq, Nat.reduceAdd, Nat.reduceLeDiff, Nat.reduceLT, Nat.reduceBEq, Nat.reduceSub, EE.down]
      refine condS (fun c3 => ?_) (fun c3 => ?_)
      · obtain ⟨xo2, hxo2, hd⟩ := countY (show (o2_0 : Int) < (x0.length : Int) from c3)
        rw [hd, F21_l2] at h
        simp only [VW.down, Nat.reduceEqDiff, reduceCtorEq, Nat.reduceAdd, Nat.reduceLeDiff, Nat.reduceLT, Nat.reduceBEq, Nat.reduceSub, EE.down]
        refine t_idxF (enc := eS) (xs := x0) rfl rfl hxo2 rfl ?_
        simp only [VW.down, Nat.reduceEqDiff, reduceCtorEq, Nat.reduceAdd, Nat.reduceLeDiff, Nat.reduceLT, Nat.reduceBEq, Nat.reduceSub, EE.down]
        obtain ⟨y4, hy4, h⟩ := Option.bind_eq_some_iff.1 h
        refine t_idxF (enc := eS) (xs := x1) rfl rfl hy4 rfl ?_
        simp only [VW.down, Nat.reduceEqDiff, reduceCtorEq, Nat.reduceAdd, Nat.reduceLeDiff, Nat.reduceLT, Nat.reduceBEq, Nat.reduceSub, EE.down]
        refine condS (fun c5 => ?_) (fun c5 => ?_)
        · have h := (if_pos c5).symm.trans h
          simp only [VW.down, Nat.reduceEqDiff, reduceCtorEq, Nat.reduceAdd, Nat.reduceLeDiff, Nat.reduceLT, Nat.reduceBEq, Nat.reduceSub, EE.down]
          obtain ⟨fh0o2, hfh0o2, rfl⟩ := Option.map_eq_some_iff.1 h
          have h := hfh0o2.trans h0o2
          obtain rfl := Option.some.inj h
          exact eF []
        · have h := (if_neg c5).symm.trans h
          simp only [VW.down, Nat.reduceEqDiff, reduceCtorEq, Nat.reduceAdd, Nat.reduceLeDiff, Nat.reduceLT, Nat.reduceBEq, Nat.reduceSub, EE.down]
          rw [wrapN (by omega)]
          exact eL' (x0.length - (o2_0 + 1)) [] ⟨o2_0 + 1, ⟨by omega, rfl⟩, rfl, h⟩ (by omega)
      · rw [countN (show ¬ ((o2_0 : Int) < (x0.length : Int)) from c3), F21_l2] at h
        simp only [VW.down, Nat.reduceEqDiff, reduceCtorEq, Nat.reduceAdd, Nat.reduceLeDiff, Nat.reduceLT, Nat.reduceBEq, Nat.reduceSub, EE.down]
        obtain rfl := Option.some.inj h
        exact eM [] ⟨_, rfl, rfl⟩
    · rintro _ ⟨po2, rfl, rfl⟩
      clear ho
      dsimp only at h
      simp only [VW.down, Nat.reduceEqDiff, reduceCtorEq, Nat.reduceAdd, Nat.reduceLeDiff, Nat.reduceLT, Nat.reduceBEq, Nat.reduceSub, EE.down]
      obtain rfl := Option.some.inj h
      exact eF []

/- orchestrator/orchestratorref32.Same -/
def F9_l2 (x1 : (List Expectation)) : List Expectation → Nat → Option ((Bool) ⊕ (Unit))
  | [], o2_0 => some (Sum.inr (()))
  | xo2 :: xs, o2_0 => (((rdI x1 ((o2_0 : Int))).bind fun y5 => (if ¬ (xo2.Key = y5.Key) then some true else (if ¬ (xo2.Creates = y5.Creates) then some true else (if ¬ (xo2.Since = y5.Since) then some true else (F21 xo2.Deletes y5.Deletes).bind fun t9 => some (nb t9))))).bind fun o4 => (if o4 = true then (some false).map Sum.inl else F9_l2 x1 xs (o2_0 + 1)))
def F9 (x0 : (List Expectation)) (x1 : (List Expectation)) : Option (Bool) := (if ¬ ((x0.length : Int) = (x1.length : Int)) then some false else (((ck (0 ≤ x0.length ∧ x0.length ≤ 4294967290)).bind fun u11 => F9_l2 x1 x0 0).bind fun o2 => match o2 with | Sum.inl f => some f | Sum.inr po2 => some true))
def a9 : AFn := ⟨68, [(.tmp 4)],
 (.seq (.reg [⟨(some 4), none, .mv (kB false), [], (.new [])⟩])
 (.seq (.seq (.reg [⟨(some 6), none, .mv (.t 0), [], (.new [])⟩,
   ⟨(some 7), none, .len (.t 6), [], (.new [])⟩,
   ⟨(some 8), none, .mv (.t 1), [], (.new [])⟩,
   ⟨(some 9), none, .len (.t 8), [], (.new [])⟩,
   ⟨(some 10), none, .bin .neq (.t 7) (.t 9), [], (.new [])⟩])
 (.cond (.t 10)
 (.seq (.reg [⟨(some 4), none, .mv (kB false), [], (.new [])⟩])
 .ret)
 .skip))
 (.seq (.seq (.reg [⟨(some 5), none, .mv (kI 0), [], (.new [])⟩])
 (.sem (.block 0 (.loop (.seq (.seq (.reg [⟨(some 11), none, .mv (.t 5), [], (.new [])⟩,
   ⟨(some 12), none, .mv (.t 0), [], (.new [])⟩,
   ⟨(some 13), none, .len (.t 12), [], (.new [])⟩,
   ⟨(some 14), none, .bin .lss (.t 11) (.t 13), [], (.new [])⟩])
 (.cond (.t 14)
 .skip
 (.exit 0)))
 (.seq (.block 1 (.seq (.sem (.regd [⟨(some 17), none, .mv (.t 0), [], (.new [])⟩,
   ⟨(some 18), none, .mv (.t 5), [], (.new [])⟩,
   ⟨(some 19), none, .indexA 4 (.t 17) (.t 18), [0, 1], (.new [])⟩,
   ⟨(some 20), none, .fieldA 0 (.t 19), [0, 1, 2], (.new [])⟩,
   ⟨(some 21), none, .load none (.t 20), [0, 1, 2, 3], (.new [])⟩,
   ⟨(some 22), none, .mv (.t 1), [], (.new [])⟩,
   ⟨(some 23), none, .mv (.t 5), [], (.new [])⟩,
   ⟨(some 24), none, .indexA 4 (.t 22) (.t 23), [5, 6], (.new [])⟩,
   ⟨(some 25), none, .fieldA 0 (.t 24), [5, 6, 7], (.new [])⟩,
   ⟨(some 26), none, .load none (.t 25), [5, 6, 7, 8], (.new [])⟩,
   ⟨(some 27), none, .bin .neq (.t 21) (.t 26), [0, 1, 2, 3, 4, 5, 6, 7, 8, 9], (.new [])⟩,
   ⟨(some 28), none, .mv (.t 27), [0, 1, 2, 3, 4, 5, 6, 7, 8, 9, 10], (.new [])⟩,
   ⟨(some 29), (some (28, false)), .mv (.t 0), [0, 1, 2, 3, 4, 5, 6, 7, 8, 9, 10, 11], (.new [])⟩,
   ⟨(some 30), (some (28, false)), .mv (.t 5), [0, 1, 2, 3, 4, 5, 6, 7, 8, 9, 10, 11], (.new [])⟩,
   ⟨(some 31), (some (28, false)), .indexA 4 (.t 29) (.t 30), [0, 1, 2, 3, 4, 5, 6, 7, 8, 9, 10, 11, 12, 13], (.new [])⟩,
   ⟨(some 32), (some (28, false)), .fieldA 1 (.t 31), [0, 1, 2, 3, 4, 5, 6, 7, 8, 9, 10, 11, 12, 13, 14], (.new [])⟩,
   ⟨(some 33), (some (28, false)), .load none (.t 32), [0, 1, 2, 3, 4, 5, 6, 7, 8, 9, 10, 11, 12, 13, 14, 15], (.new [])⟩,
   ⟨(some 34), (some (28, false)), .mv (.t 1), [0, 1, 2, 3, 4, 5, 6, 7, 8, 9, 10, 11], (.new [])⟩,
   ⟨(some 35), (some (28, false)), .mv (.t 5), [0, 1, 2, 3, 4, 5, 6, 7, 8, 9, 10, 11], (.new [])⟩,
   ⟨(some 36), (some (28, false)), .indexA 4 (.t 34) (.t 35), [0, 1, 2, 3, 4, 5, 6, 7, 8, 9, 10, 11, 17, 18], (.new [])⟩,
   ⟨(some 37), (some (28, false)), .fieldA 1 (.t 36), [0, 1, 2, 3, 4, 5, 6, 7, 8, 9, 10, 11, 17, 18, 19], (.new [])⟩,
   ⟨(some 38), (some (28, false)), .load none (.t 37), [0, 1, 2, 3, 4, 5, 6, 7, 8, 9, 10, 11, 17, 18, 19, 20], (.new [])⟩,
   ⟨(some 39), (some (28, false)), .bin .neq (.t 33) (.t 38), [0, 1, 2, 3, 4, 5, 6, 7, 8, 9, 10, 11, 12, 13, 14, 15, 16, 17, 18, 19, 20, 21], (.new [])⟩,
   ⟨(some 40), none, .pick (.t 28) (kB true) (.t 39), [0, 1, 2, 3, 4, 5, 6, 7, 8, 9, 10, 11, 12, 13, 14, 15, 16, 17, 18, 19, 20, 21, 22], (.lone [])⟩,
   ⟨(some 41), none, .mv (.t 40), [0, 1, 2, 3, 4, 5, 6, 7, 8, 9, 10, 11, 12, 13, 14, 15, 16, 17, 18, 19, 20, 21, 22, 23], (.new [])⟩,
   ⟨(some 42), (some (41, false)), .mv (.t 0), [0, 1, 2, 3, 4, 5, 6, 7, 8, 9, 10, 11, 12, 13, 14, 15, 16, 17, 18, 19, 20, 21, 22, 23, 24], (.new [])⟩,
   ⟨(some 43), (some (41, false)), .mv (.t 5), [0, 1, 2, 3, 4, 5, 6, 7, 8, 9, 10, 11, 12, 13, 14, 15, 16, 17, 18, 19, 20, 21, 22, 23, 24], (.new [])⟩,
   ⟨(some 44), (some (41, false)), .indexA 4 (.t 42) (.t 43), [0, 1, 2, 3, 4, 5, 6, 7, 8, 9, 10, 11, 12, 13, 14, 15, 16, 17, 18, 19, 20, 21, 22, 23, 24, 25, 26], (.new [])⟩,
   ⟨(some 45), (some (41, false)), .fieldA 3 (.t 44), [0, 1, 2, 3, 4, 5, 6, 7, 8, 9, 10, 11, 12, 13, 14, 15, 16, 17, 18, 19, 20, 21, 22, 23, 24, 25, 26, 27], (.new [])⟩,
   ⟨(some 46), (some (41, false)), .load none (.t 45), [0, 1, 2, 3, 4, 5, 6, 7, 8, 9, 10, 11, 12, 13, 14, 15, 16, 17, 18, 19, 20, 21, 22, 23, 24, 25, 26, 27, 28], (.new [])⟩,
   ⟨(some 47), (some (41, false)), .mv (.t 1), [0, 1, 2, 3, 4, 5, 6, 7, 8, 9, 10, 11, 12, 13, 14, 15, 16, 17, 18, 19, 20, 21, 22, 23, 24], (.new [])⟩,
   ⟨(some 48), (some (41, false)), .mv (.t 5), [0, 1, 2, 3, 4, 5, 6, 7, 8, 9, 10, 11, 12, 13, 14, 15, 16, 17, 18, 19, 20, 21, 22, 23, 24], (.new [])⟩,
   ⟨(some 49), (some (41, false)), .indexA 4 (.t 47) (.t 48), [0, 1, 2, 3, 4, 5, 6, 7, 8, 9, 10, 11, 12, 13, 14, 15, 16, 17, 18, 19, 20, 21, 22, 23, 24, 30, 31], (.new [])⟩,
   ⟨(some 50), (some (41, false)), .fieldA 3 (.t 49), [0, 1, 2, 3, 4, 5, 6, 7, 8, 9, 10, 11, 12, 13, 14, 15, 16, 17, 18, 19, 20, 21, 22, 23, 24, 30, 31, 32], (.new [])⟩,
   ⟨(some 51), (some (41, false)), .load none (.t 50), [0, 1, 2, 3, 4, 5, 6, 7, 8, 9, 10, 11, 12, 13, 14, 15, 16, 17, 18, 19, 20, 21, 22, 23, 24, 30, 31, 32, 33], (.new [])⟩,
   ⟨(some 52), (some (41, false)), .bin .neq (.t 46) (.t 51), [0, 1, 2, 3, 4, 5, 6, 7, 8, 9, 10, 11, 12, 13, 14, 15, 16, 17, 18, 19, 20, 21, 22, 23, 24, 25, 26, 27, 28, 29, 30, 31, 32, 33, 34], (.new [])⟩,
   ⟨(some 53), none, .pick (.t 41) (kB true) (.t 52), [0, 1, 2, 3, 4, 5, 6, 7, 8, 9, 10, 11, 12, 13, 14, 15, 16, 17, 18, 19, 20, 21, 22, 23, 24, 25, 26, 27, 28, 29, 30, 31, 32, 33, 34, 35], (.lone [])⟩,
   ⟨(some 54), none, .mv (.t 53), [0, 1, 2, 3, 4, 5, 6, 7, 8, 9, 10, 11, 12, 13, 14, 15, 16, 17, 18, 19, 20, 21, 22, 23, 24, 25, 26, 27, 28, 29, 30, 31, 32, 33, 34, 35, 36], (.new [])⟩,
   ⟨(some 55), (some (54, false)), .mv (.t 0), [0, 1, 2, 3, 4, 5, 6, 7, 8, 9, 10, 11, 12, 13, 14, 15, 16, 17, 18, 19, 20, 21, 22, 23, 24, 25, 26, 27, 28, 29, 30, 31, 32, 33, 34, 35, 36, 37], (.new [])⟩,
   ⟨(some 56), (some (54, false)), .mv (.t 5), [0, 1, 2, 3, 4, 5, 6, 7, 8, 9, 10, 11, 12, 13, 14, 15, 16, 17, 18, 19, 20, 21, 22, 23, 24, 25, 26, 27, 28, 29, 30, 31, 32, 33, 34, 35, 36, 37], (.new [])⟩,
   ⟨(some 57), (some (54, false)), .indexA 4 (.t 55) (.t 56), [0, 1, 2, 3, 4, 5, 6, 7, 8, 9, 10, 11, 12, 13, 14, 15, 16, 17, 18, 19, 20, 21, 22, 23, 24, 25, 26, 27, 28, 29, 30, 31, 32, 33, 34, 35, 36, 37, 38, 39], (.new [])⟩,
   ⟨(some 58), (some (54, false)), .fieldA 2 (.t 57), [0, 1, 2, 3, 4, 5, 6, 7, 8, 9, 10, 11, 12, 13, 14, 15, 16, 17, 18, 19, 20, 21, 22, 23, 24, 25, 26, 27, 28, 29, 30, 31, 32, 33, 34, 35, 36, 37, 38, 39, 40], (.new [])⟩,
   ⟨(some 59), (some (54, false)), .load none (.t 58), [0, 1, 2, 3, 4, 5, 6, 7, 8, 9, 10, 11, 12, 13, 14, 15, 16, 17, 18, 19, 20, 21, 22, 23, 24, 25, 26, 27, 28, 29, 30, 31, 32, 33, 34, 35, 36, 37, 38, 39, 40, 41], (.new [])⟩,
   ⟨(some 60), (some (54, false)), .mv (.t 1), [0, 1, 2, 3, 4, 5, 6, 7, 8, 9, 10, 11, 12, 13, 14, 15, 16, 17, 18, 19, 20, 21, 22, 23, 24, 25, 26, 27, 28, 29, 30, 31, 32, 33, 34, 35, 36, 37], (.new [])⟩,
   ⟨(some 61), (some (54, false)), .mv (.t 5), [0, 1, 2, 3, 4, 5, 6, 7, 8, 9, 10, 11, 12, 13, 14, 15, 16, 17, 18, 19, 20, 21, 22, 23, 24, 25, 26, 27, 28, 29, 30, 31, 32, 33, 34, 35, 36, 37], (.new [])⟩,
   ⟨(some 62), (some (54, false)), .indexA 4 (.t 60) (.t 61), [0, 1, 2, 3, 4, 5, 6, 7, 8, 9, 10, 11, 12, 13, 14, 15, 16, 17, 18, 19, 20, 21, 22, 23, 24, 25, 26, 27, 28, 29, 30, 31, 32, 33, 34, 35, 36, 37, 43, 44], (.new [])⟩,
   ⟨(some 63), (some (54, false)), .fieldA 2 (.t 62), [0, 1, 2, 3, 4, 5, 6, 7, 8, 9, 10, 11, 12, 13, 14, 15, 16, 17, 18, 19, 20, 21, 22, 23, 24, 25, 26, 27, 28, 29, 30, 31, 32, 33, 34, 35, 36, 37, 43, 44, 45], (.new [])⟩,
   ⟨(some 64), (some (54, false)), .load none (.t 63), [0, 1, 2, 3, 4, 5, 6, 7, 8, 9, 10, 11, 12, 13, 14, 15, 16, 17, 18, 19, 20, 21, 22, 23, 24, 25, 26, 27, 28, 29, 30, 31, 32, 33, 34, 35, 36, 37, 43, 44, 45, 46], (.new [])⟩,
   ⟨(some 65), (some (54, false)), .call 21 [(.t 59), (.t 64)], [0, 1, 2, 3, 4, 5, 6, 7, 8, 9, 10, 11, 12, 13, 14, 15, 16, 17, 18, 19, 20, 21, 22, 23, 24, 25, 26, 27, 28, 29, 30, 31, 32, 33, 34, 35, 36, 37, 38, 39, 40, 41, 42, 43, 44, 45, 46, 47], (.lone [])⟩,
   ⟨(some 66), (some (54, false)), .not (.t 65), [0, 1, 2, 3, 4, 5, 6, 7, 8, 9, 10, 11, 12, 13, 14, 15, 16, 17, 18, 19, 20, 21, 22, 23, 24, 25, 26, 27, 28, 29, 30, 31, 32, 33, 34, 35, 36, 37, 38, 39, 40, 41, 42, 43, 44, 45, 46, 47, 48], (.new [])⟩,
   ⟨(some 67), none, .pick (.t 54) (kB true) (.t 66), [0, 1, 2, 3, 4, 5, 6, 7, 8, 9, 10, 11, 12, 13, 14, 15, 16, 17, 18, 19, 20, 21, 22, 23, 24, 25, 26, 27, 28, 29, 30, 31, 32, 33, 34, 35, 36, 37, 38, 39, 40, 41, 42, 43, 44, 45, 46, 47, 48, 49], (.lone [])⟩]))
 (.cond (.t 67)
 (.seq (.reg [⟨(some 4), none, .mv (kB false), [], (.new [])⟩])
 .ret)
 .skip)))
 (.reg [⟨(some 15), none, .mv (.t 5), [], (.new [])⟩,
   ⟨(some 16), none, .bin .add (.t 15) (kI 1), [], (.new [])⟩,
   ⟨(some 5), none, .mv (.t 16), [], (.new [])⟩])))))))
 (.seq (.reg [⟨(some 4), none, .mv (kB true), [], (.new [])⟩])
 .ret))))⟩
theorem a9_ok : afn Try.prog 9 = some a9.er := by kernel_rfl
theorem F9_ok {x0 : (List Expectation)} {x1 : (List Expectation)} {r : Bool} (h : F9 x0 x1 = some r) : CallD Try.prog 9 [.c (.d (.sl (x0.map eExpectation))), .c (.d (.sl (x1.map eExpectation)))] [] (tupV [.c (.d (.v (.bool r)))]) [] := by
  refine callS a9_ok (by simp [a9]) ?_
  rw [F9] at h
  simp only [a9, VW.down, Nat.reduceEqDiff, reduceCtorEq, Nat.reduceAdd, Nat.reduceLeDiff, Nat.reduceLT, Nat.reduceBEq, Nat.reduceSub, EE.down]
  refine condS (fun c1 => ?_) (fun c1 => ?_)
  · have h := (if_pos c1).symm.trans h
    simp only [VW.down, Nat.reduceEqDiff, reduceCtorEq, Nat.reduceAdd, Nat.reduceLeDiff, Nat.reduceLT, Nat.reduceBEq, Nat.reduceSub, EE.down]
    obtain rfl := Option.some.inj h
    exact eF []
  · have h := (if_neg c1).symm.trans h
    simp only [VW.down, Nat.reduceEqDiff, reduceCtorEq, Nat.reduceAdd, Nat.reduceLeDiff, Nat.reduceLT, Nat.reduceBEq, Nat.reduceSub, EE.down]
    obtain ⟨o2, ho, h⟩ := Option.bind_eq_some_iff.1 h
    refine cutS (fun s => ∃ po2, o2 = Sum.inr po2 ∧ s = ⟨[], []⟩) ?_ ?_
    · have h0o2 := h
      have h := ho
      clear ho
      obtain ⟨_, hk, h⟩ := Option.bind_eq_some_iff.1 h
      have hk := ck_some hk
      simp only [VW.down, Nat.reduceEqDiff, reduceCtorEq, Nat.reduceAdd, Nat.reduceLeDiff, Nat.reduceLT, Nat.reduceBEq, Nat.reduceSub, EE.down]
      refine bL (fun j s => ∃ (o2_0 : Nat), (o2_0 ≤ x0.length ∧ j = x0.length - o2_0) ∧ s = ⟨[(0, .one (.c (.d (.sl (x0.map eExpectation))))), (1, .one (.c (.d (.sl (x1.map eExpectation))))), (5, .one (.c (.d (.v (.int .i64 ((o2_0 : Int)))))))], []⟩ ∧ F9_l2 x1 (x0.drop o2_0) o2_0 = some o2) (x0.length - 0) [] ⟨0, ⟨hk.1, rfl⟩, rfl, h⟩ ?_
      rintro _ _ ⟨o2_0, ⟨hi, rfl⟩, rfl, h⟩
      simp only [VW.down, Nat.reduceEqDiff, reduceCtorEq, Nat.reduceAdd, Nat.reduceLeDiff, Nat.reduceLT, Nat.reduceBEq, Nat.reduceSub, EE.down]
      refine condS (fun c3 => ?_) (fun c3 => ?_)
      · obtain ⟨xo2, hxo2, hd⟩ := countY (show (o2_0 : Int) < (x0.length : Int) from c3)
        rw [hd, F9_l2] at h
        simp only [VW.down, Nat.reduceEqDiff, reduceCtorEq, Nat.reduceAdd, Nat.reduceLeDiff, Nat.reduceLT, Nat.reduceBEq, Nat.reduceSub, EE.down]
        obtain ⟨o4, ho, h⟩ := Option.bind_eq_some_iff.1 h
        refine cutS (fun s => s = ⟨[(0, .one (.c (.d (.sl (x0.map eExpectation))))), (1, .one (.c (.d (.sl (x1.map eExpectation))))), (5, .one (.c (.d (.v (.int .i64 ((o2_0 : Int))))))), (67, .one (.c (.d (.v (.bool o4)))))], []⟩) ?_ ?_
        · have h := ho
          clear ho
          simp only [VW.down, Nat.reduceEqDiff, reduceCtorEq, Nat.reduceAdd, Nat.reduceLeDiff, Nat.reduceLT, Nat.reduceBEq, Nat.reduceSub, EE.down]
          refine t_idxF (enc := eExpectation) (xs := x0) rfl rfl hxo2 rfl ?_
          simp only [VW.down, Nat.reduceEqDiff, reduceCtorEq, Nat.reduceAdd, Nat.reduceLeDiff, Nat.reduceLT, Nat.reduceBEq, Nat.reduceSub, EE.down]
          obtain ⟨y5, hy5, h⟩ := Option.bind_eq_some_iff.1 h
          refine t_idxF (enc := eExpectation) (xs := x1) rfl rfl hy5 rfl ?_
          simp only [VW.down, Nat.reduceEqDiff, reduceCtorEq, Nat.reduceAdd, Nat.reduceLeDiff, Nat.reduceLT, Nat.reduceBEq, Nat.reduceSub, EE.down]
          refine guardD (fun g6 => ?_) (fun g6 => ?_)
          · have h := (if_pos g6).symm.trans h
            simp only [VW.down, Nat.reduceEqDiff, reduceCtorEq, Nat.reduceAdd, Nat.reduceLeDiff, Nat.reduceLT, Nat.reduceBEq, Nat.reduceSub, EE.down]
            obtain rfl := Option.some.inj h
            exact eM [] rfl
          · have h := (if_neg g6).symm.trans h
            simp only [VW.down, Nat.reduceEqDiff, reduceCtorEq, Nat.reduceAdd, Nat.reduceLeDiff, Nat.reduceLT, Nat.reduceBEq, Nat.reduceSub, EE.down]
            refine t_idxF (enc := eExpectation) (xs := x0) rfl rfl hxo2 rfl ?_
            simp only [VW.down, Nat.reduceEqDiff, reduceCtorEq, Nat.reduceAdd, Nat.reduceLeDiff, Nat.reduceLT, Nat.reduceBEq, Nat.reduceSub, EE.down]
            refine t_idxF (enc := eExpectation) (xs := x1) rfl rfl hy5 rfl ?_
            simp only [VW.down, Nat.reduceEqDiff, reduceCtorEq, Nat.reduceAdd, Nat.reduceLeDiff, Nat.reduceLT, Nat.reduceBEq, Nat.reduceSub, EE.down]
            refine guardD (fun g7 => ?_) (fun g7 => ?_)
            · have h := (if_pos g7).symm.trans h
              simp only [VW.down, Nat.reduceEqDiff, reduceCtorEq, Nat.reduceAdd, Nat.reduceLeDiff, Nat.reduceLT, Nat.reduceBEq, Nat.reduceSub, EE.down]
              obtain rfl := Option.some.inj h
              exact eM [] rfl
            · have h := (if_neg g7).symm.trans h
              simp only [VW.down, Nat.reduceEqDiff, reduceCtorEq, Nat.reduceAdd, Nat.reduceLeDiff, Nat.reduceLT, Nat.reduceBEq, Nat.reduceSub, EE.down]
              refine t_idxF (enc := eExpectation) (xs := x0) rfl rfl hxo2 rfl ?_
              simp only [VW.down, Nat.reduceEqDiff, reduceCtorEq, Nat.reduceAdd, Nat.reduceLeDiff, Nat.reduceLT, Nat.reduceBEq, Nat.reduceSub, EE.down]
              refine t_idxF (enc := eExpectation) (xs := x1) rfl rfl hy5 rfl ?_
              simp only [VW.down, Nat.reduceEqDiff, reduceCtorEq, Nat.reduceAdd, Nat.reduceLeDiff, Nat.reduceLT, Nat.reduceBEq, Nat.reduceSub, EE.down]
              refine guardD (fun g8 => ?_) (fun g8 => ?_)
              · have h := (if_pos g8).symm.trans h
                simp only [VW.down, Nat.reduceEqDiff, reduceCtorEq, Nat.reduceAdd, Nat.reduceLeDiff, Nat.reduceLT, Nat.reduceBEq, Nat.reduceSub, EE.down]
                obtain rfl := Option.some.inj h
                exact eM [] rfl
              · have h := (if_neg g8).symm.trans h
                simp only [VW.down, Nat.reduceEqDiff, reduceCtorEq, Nat.reduceAdd, Nat.reduceLeDiff, Nat.reduceLT, Nat.reduceBEq, Nat.reduceSub, EE.down]
                refine t_idxF (enc := eExpectation) (xs := x0) rfl rfl hxo2 rfl ?_
                simp only [VW.down, Nat.reduceEqDiff, reduceCtorEq, Nat.reduceAdd, Nat.reduceLeDiff, Nat.reduceLT, Nat.reduceBEq, Nat.reduceSub, EE.down]
                refine t_idxF (enc := eExpectation) (xs := x1) rfl rfl hy5 rfl ?_
                simp only [VW.down, Nat.reduceEqDiff, reduceCtorEq, Nat.reduceAdd, Nat.reduceLeDiff, Nat.reduceLT, Nat.reduceBEq, Nat.reduceSub, EE.down]
                obtain ⟨t9, ht9, h⟩ := Option.bind_eq_some_iff.1 h
                refine callX_n [] (F21_ok ht9) ?_ ?_ ?_ ?_ ?_ ?_
                · first | rfl | simp [nrmA, nrmC, nrm, A1.ren, C.ren, rn, List.length_set]
                · simp [liveAll, A1.live, C.live]
                · rfl
                · decide
                · exact trivial
                simp only [VW.down, Nat.reduceEqDiff, reduceCtorEq, Nat.reduceAdd, Nat.reduceLeDiff, Nat.reduceLT, Nat.reduceBEq, Nat.reduceSub, EE.down]
                obtain rfl := Option.some.inj h
                exact eM [] rfl
        · rintro _ rfl
          clear ho
          simp only [VW.down, Nat.reduceEqDiff, reduceCtorEq, Nat.reduceAdd, Nat.reduceLeDiff, Nat.reduceLT, Nat.reduceBEq, Nat.reduceSub, EE.down]
          refine condB (fun c10 => ?_) (fun c10 => ?_)
          · have h := (if_pos c10).symm.trans h
            simp only [VW.down, Nat.reduceEqDiff, reduceCtorEq, Nat.reduceAdd, Nat.reduceLeDiff, Nat.reduceLT, Nat.reduceBEq, Nat.reduceSub, EE.down]
            obtain ⟨fh0o2, hfh0o2, rfl⟩ := Option.map_eq_some_iff.1 h
            have h := hfh0o2.trans h0o2
            obtain rfl := Option.some.inj h
            exact eF []
          · have h := (if_neg c10).symm.trans h
            simp only [VW.down, Nat.reduceEqDiff, reduceCtorEq, Nat.reduceAdd, Nat.reduceLeDiff, Nat.reduceLT, Nat.reduceBEq, Nat.reduceSub, EE.down]
            rw [wrapN (by omega)]
            exact eL' (x0.length - (o2_0 + 1)) [] ⟨o2_0 + 1, ⟨by omega, rfl⟩, rfl, h⟩ (by omega)
      · rw [countN (show ¬ ((o2_0 : Int) < (x0.length : Int)) from c3), F9_l2] at h
        simp only [VW.down, Nat.reduceEqDiff, reduceCtorEq, Nat.reduceAdd, Nat.reduceLeDiff, Nat.reduceLT, Nat.reduceBEq, Nat.reduceSub, EE.down]
        obtain rfl := Option.some.inj h
        exact eM [] ⟨_, rfl, rfl⟩
    · rintro _ ⟨po2, rfl, rfl⟩
      clear ho
      dsimp only at h
      simp only [VW.down, Nat.reduceEqDiff, reduceCtorEq, Nat.reduceAdd, Nat.reduceLeDiff, Nat.reduceLT, Nat.reduceBEq, Nat.reduceSub, EE.down]
      obtain rfl := Option.some.inj h
      exact eF []

/- orchestrator/expect.Met -/
def F16_l1 (x1 : ByteArray) (x2 : Int) (x3 : Int) : List Expectation → Nat → Option ((Bool) ⊕ (Unit))
  | [], o1_0 => some (Sum.inr (()))
  | xo1 :: xs, o1_0 => (if xo1.Key = x1 then (some (decide ((if 1000000000000 < (if x3 < 0 then 0 else x3) then 1000000000000 else (if x3 < 0 then 0 else x3)) < (IntKind.i64.wrap (((if 1000000000000 < (if x2 < 0 then 0 else x2) then 1000000000000 else (if x2 < 0 then 0 else x2))) - xo1.Since))))).map Sum.inl else F16_l1 x1 x2 x3 xs (o1_0 + 1))
def F16 (x0 : (List Expectation)) (x1 : ByteArray) (x2 : Int) (x3 : Int) : Option (Bool) := (((ck (0 ≤ x0.length ∧ x0.length ≤ 4294967290)).bind fun u4 => F16_l1 x1 x2 x3 x0 0).bind fun o1 => match o1 with | Sum.inl f => some f | Sum.inr po1 => some true)
def a16 : AFn := ⟨32, [(.tmp 8)],
 (.seq (.reg [⟨(some 8), none, .mv (kB false), [], (.new [])⟩])
 (.seq (.seq (.reg [⟨(some 11), none, .mv (.t 0), [], (.new [])⟩,
   ⟨(some 12), none, .len (.t 11), [], (.new [])⟩,
   ⟨(some 13), none, .mv (kI 0), [], (.new [])⟩])
 (.sem (.block 0 (.loop (.seq (.reg [⟨(some 14), none, .bin .lss (.t 13) (.t 12), [], (.new [])⟩])
 (.seq (.cond (.t 14)
 .skip
 (.exit 0))
 (.seq (.block 1 (.seq (.reg [⟨(some 15), none, .indexA 4 (.t 11) (.t 13), [], (.new [])⟩,
   ⟨(some 16), none, .load (some 4) (.t 15), [], (.new [])⟩,
   ⟨(some 10), none, .zbox [.d (.v (.string ⟨#[]⟩)), .d (.v (.int .i64 0)), .d (.v (.slice none 0 0)), .d (.v (.int .i64 0))], [], (.new [])⟩,
   ⟨none, none, .store 4 (.t 10) (.t 16), [], (.new [])⟩])
 (.seq (.reg [⟨(some 17), none, .fieldA 0 (.t 10), [], (.new [])⟩,
   ⟨(some 18), none, .load none (.t 17), [], (.new [])⟩,
   ⟨(some 19), none, .mv (.t 1), [], (.new [])⟩,
   ⟨(some 20), none, .bin .eql (.t 18) (.t 19), [], (.new [])⟩])
 (.cond (.t 20)
 (.seq (.reg [⟨(some 21), none, .mv (.t 2), [], (.new [])⟩,
   ⟨(some 22), none, .max (.t 21) (kI 0), [], (.new [])⟩,
   ⟨(some 23), none, .min (.t 22) (kI 1000000000000), [], (.new [])⟩,
   ⟨(some 24), none, .fieldA 3 (.t 10), [], (.new [])⟩,
   ⟨(some 25), none, .load none (.t 24), [], (.new [])⟩,
   ⟨(some 26), none, .bin .sub (.t 23) (.t 25), [], (.new [])⟩,
   ⟨(some 27), none, .mv (.t 3), [], (.new [])⟩,
   ⟨(some 28), none, .max (.t 27) (kI 0), [], (.new [])⟩,
   ⟨(some 29), none, .min (.t 28) (kI 1000000000000), [], (.new [])⟩,
   ⟨(some 30), none, .bin .gtr (.t 26) (.t 29), [], (.new [])⟩,
   ⟨(some 8), none, .mv (.t 30), [], (.new [])⟩])
 .ret)
 .skip))))
 (.reg [⟨(some 31), none, .bin .add (.t 13) (kI 1), [], (.new [])⟩,
   ⟨(some 13), none, .mv (.t 31), [], (.new [])⟩]))))))))
 (.seq (.reg [⟨(some 8), none, .mv (kB true), [], (.new [])⟩])
 .ret)))⟩
theorem a16_ok : afn Try.prog 16 = some a16.er := by kernel_rfl
theorem F16_ok {x0 : (List Expectation)} {x1 : ByteArray} {x2 : Int} {x3 : Int} {r : Bool} (h : F16 x0 x1 x2 x3 = some r) : CallD Try.prog 16 [.c (.d (.sl (x0.map eExpectation))), .c (.d (.v (.string x1))), .c (.d (.v (.int .i64 x2))), .c (.d (.v (.int .i64 x3)))] [] (tupV [.c (.d (.v (.bool r)))]) [] := by
  refine callS a16_ok (by simp [a16]) ?_
  rw [F16] at h
  simp only [a16, VW.down, Nat.reduceEqDiff, reduceCtorEq, Nat.reduceAdd, Nat.reduceLeDiff, Nat.reduceLT, Nat.reduceBEq, Nat.reduceSub, EE.down]
  obtain ⟨o1, ho, h⟩ := Option.bind_eq_some_iff.1 h
  refine cutS (fun s => ∃ po1, o1 = Sum.inr po1 ∧ s = ⟨[], []⟩) ?_ ?_
  · have h0o1 := h
    have h := ho
    clear ho
    obtain ⟨_, hk, h⟩ := Option.bind_eq_some_iff.1 h
    have hk := ck_some hk
    simp only [VW.down, Nat.reduceEqDiff, reduceCtorEq, Nat.reduceAdd, Nat.reduceLeDiff, Nat.reduceLT, Nat.reduceBEq, Nat.reduceSub, EE.down]
    refine bL (fun j s => ∃ (o1_0 : Nat), (o1_0 ≤ x0.length ∧ j = x0.length - o1_0) ∧ s = ⟨[(1, .one (.c (.d (.v (.string x1))))), (2, .one (.c (.d (.v (.int .i64 x2))))), (3, .one (.c (.d (.v (.int .i64 x3))))), (11, .one (.c (.d (.sl (x0.map eExpectation))))), (12, .one (.c (.d (.v (.int .i64 ((x0.length : Int))))))), (13, .one (.c (.d (.v (.int .i64 ((o1_0 : Int)))))))], []⟩ ∧ F16_l1 x1 x2 x3 (x0.drop o1_0) o1_0 = some o1) (x0.length - 0) [] ⟨0, ⟨hk.1, rfl⟩, rfl, h⟩ ?_
    rintro _ _ ⟨o1_0, ⟨hi, rfl⟩, rfl, h⟩
    simp only [VW.down, Nat.reduceEqDiff, reduceCtorEq, Nat.reduceAdd, Nat.reduceLeDiff, Nat.reduceLT, Nat.reduceBEq, Nat.reduceSub, EE.down]
    refine condS (fun c2 => ?_) (fun c2 => ?_)
    · obtain ⟨xo1, hxo1, hd⟩ := countY (show (o1_0 : Int) < (x0.length : Int) from c2)
      rw [hd, F16_l1] at h
      simp only [VW.down, Nat.reduceEqDiff, reduceCtorEq, Nat.reduceAdd, Nat.reduceLeDiff, Nat.reduceLT, Nat.reduceBEq, Nat.reduceSub, EE.down]
      refine t_idxF (enc := eExpectation) (xs := x0) rfl rfl hxo1 rfl ?_
      simp only [VW.down, Nat.reduceEqDiff, reduceCtorEq, Nat.reduceAdd, Nat.reduceLeDiff, Nat.reduceLT, Nat.reduceBEq, Nat.reduceSub, EE.down]
      refine condS (fun c3 => ?_) (fun c3 => ?_)
      · have h := (if_pos c3).symm.trans h
        simp only [VW.down, Nat.reduceEqDiff, reduceCtorEq, Nat.reduceAdd, Nat.reduceLeDiff, Nat.reduceLT, Nat.reduceBEq, Nat.reduceSub, EE.down]
        obtain ⟨fh0o1, hfh0o1, rfl⟩ := Option.map_eq_some_iff.1 h
        have h := hfh0o1.trans h0o1
        obtain rfl := Option.some.inj h
        exact eF []
      · have h := (if_neg c3).symm.trans h
        simp only [VW.down, Nat.reduceEqDiff, reduceCtorEq, Nat.reduceAdd, Nat.reduceLeDiff, Nat.reduceLT, Nat.reduceBEq, Nat.reduceSub, EE.down]
        rw [wrapN (by omega)]
        exact eL' (x0.length - (o1_0 + 1)) [] ⟨o1_0 + 1, ⟨by omega, rfl⟩, rfl, h⟩ (by omega)
    · rw [countN (show ¬ ((o1_0 : Int) < (x0.length : Int)) from c2), F16_l1] at h
      simp only [VW.down, Nat.reduceEqDiff, reduceCtorEq, Nat.reduceAdd, Nat.reduceLeDiff, Nat.reduceLT, Nat.reduceBEq, Nat.reduceSub, EE.down]
      obtain rfl := Option.some.inj h
      exact eM [] ⟨_, rfl, rfl⟩
  · rintro _ ⟨po1, rfl, rfl⟩
    clear ho
    dsimp only at h
    simp only [VW.down, Nat.reduceEqDiff, reduceCtorEq, Nat.reduceAdd, Nat.reduceLeDiff, Nat.reduceLT, Nat.reduceBEq, Nat.reduceSub, EE.down]
    obtain rfl := Option.some.inj h
    exact eF []

/- orchestrator/orchestratorlaw32.lives -/
def F8  : Option (Bool) := (((F10 ([]) ((⟨#[97]⟩ : ByteArray)) 1 ((lit [(⟨#[121]⟩ : ByteArray), (⟨#[120]⟩ : ByteArray), (⟨#[121]⟩ : ByteArray)])) 5).bind fun t2 => some t2).bind fun o1 => (F12 o1 ((⟨#[97]⟩ : ByteArray))).bind fun t3 => (F14 t3 ((⟨#[97]⟩ : ByteArray)) ((⟨#[120]⟩ : ByteArray))).bind fun t4 => (F14 t4 ((⟨#[97]⟩ : ByteArray)) ((⟨#[121]⟩ : ByteArray))).bind fun t5 => (((F9 o1 ([(⟨(⟨#[97]⟩ : ByteArray), 1, [(⟨#[120]⟩ : ByteArray), (⟨#[121]⟩ : ByteArray)], 5⟩ : Expectation)])).bind fun t7 => (if t7 = true then (if (t5.length : Int) = 0 then (F16 o1 ((⟨#[97]⟩ : ByteArray)) 35 30).bind fun t10 => (if (nb t10) = true then (F16 o1 ((⟨#[97]⟩ : ByteArray)) 36 30).bind fun t12 => (if t12 = true then (F16 t5 ((⟨#[97]⟩ : ByteArray)) 5 30).bind fun t14 => (if t14 = true then (F16 o1 ((⟨#[98]⟩ : ByteArray)) 5 30).bind fun t16 => some t16 else some false) else some false) else some false) else some false) else some false)).bind fun o6 => some o6))
def a8 : AFn := ⟨36, [(.tmp 0)],
 (.seq (.reg [⟨(some 0), none, .mv (kB false), [], (.new [])⟩])
 (.seq (.sem (.reg [⟨(some 3), none, .bslice 1 [(kS ⟨#[121]⟩), (kS ⟨#[120]⟩), (kS ⟨#[121]⟩)], [], (.new [])⟩,
   ⟨(some 4), none, .call 10 [kN, (kS ⟨#[97]⟩), (kI 1), (.t 3), (kI 5)], [], (.new [])⟩,
   ⟨(some 1), none, .mv (.t 4), [], (.new [])⟩]))
 (.seq (.reg [⟨(some 5), none, .mv (.t 1), [], (.new [])⟩,
   ⟨(some 6), none, .call 12 [(.t 5), (kS ⟨#[97]⟩)], [], (.new [])⟩,
   ⟨(some 7), none, .call 14 [(.t 6), (kS ⟨#[97]⟩), (kS ⟨#[120]⟩)], [], (.new [])⟩,
   ⟨(some 8), none, .call 14 [(.t 7), (kS ⟨#[97]⟩), (kS ⟨#[121]⟩)], [], (.new [])⟩,
   ⟨(some 2), none, .mv (.t 8), [], (.new [])⟩])
 (.seq (.sem (.reg [⟨(some 9), none, .mv (.t 1), [], (.new [])⟩,
   ⟨(some 10), none, .bslice 1 [(kS ⟨#[120]⟩), (kS ⟨#[121]⟩)], [], (.new [])⟩,
   ⟨(some 11), none, .build [.d (.v (.string ⟨#[]⟩)), .d (.v (.int .i64 0)), .d (.v (.slice none 0 0)), .d (.v (.int .i64 0))] [(0, 1, (kS ⟨#[97]⟩)), (1, 1, (kI 1)), (2, 1, (.t 10)), (3, 1, (kI 5))], [], (.new [])⟩,
   ⟨(some 12), none, .bslice 4 [(.t 11)], [], (.new [])⟩,
   ⟨(some 13), none, .call 9 [(.t 9), (.t 12)], [], (.new [])⟩,
   ⟨(some 14), none, .mv (.t 13), [], (.new [])⟩,
   ⟨(some 15), (some (14, true)), .mv (.t 2), [], (.new [])⟩,
   ⟨(some 16), (some (14, true)), .len (.t 15), [], (.new [])⟩,
   ⟨(some 17), (some (14, true)), .bin .eql (.t 16) (kI 0), [], (.new [])⟩,
   ⟨(some 18), none, .pick (.t 14) (.t 17) (kB false), [], (.new [])⟩,
   ⟨(some 19), none, .mv (.t 18), [], (.new [])⟩,
   ⟨(some 20), (some (19, true)), .mv (.t 1), [], (.new [])⟩,
   ⟨(some 21), (some (19, true)), .call 16 [(.t 20), (kS ⟨#[97]⟩), (kI 35), (kI 30)], [], (.new [])⟩,
   ⟨(some 22), (some (19, true)), .not (.t 21), [], (.new [])⟩,
   ⟨(some 23), none, .pick (.t 19) (.t 22) (kB false), [], (.new [])⟩,
   ⟨(some 24), none, .mv (.t 23), [], (.new [])⟩,
   ⟨(some 25), (some (24, true)), .mv (.t 1), [], (.new [])⟩,
   ⟨(some 26), (some (24, true)), .call 16 [(.t 25), (kS ⟨#[97]⟩), (kI 36), (kI 30)], [], (.new [])⟩,
   ⟨(some 27), none, .pick (.t 24) (.t 26) (kB false), [], (.new [])⟩,
   ⟨(some 28), none, .mv (.t 27), [], (.new [])⟩,
   ⟨(some 29), (some (28, true)), .mv (.t 2), [], (.new [])⟩,
   ⟨(some 30), (some (28, true)), .call 16 [(.t 29), (kS ⟨#[97]⟩), (kI 5), (kI 30)], [], (.new [])⟩,
   ⟨(some 31), none, .pick (.t 28) (.t 30) (kB false), [], (.new [])⟩,
   ⟨(some 32), none, .mv (.t 31), [], (.new [])⟩,
   ⟨(some 33), (some (32, true)), .mv (.t 1), [], (.new [])⟩,
   ⟨(some 34), (some (32, true)), .call 16 [(.t 33), (kS ⟨#[98]⟩), (kI 5), (kI 30)], [], (.new [])⟩,
   ⟨(some 35), none, .pick (.t 32) (.t 34) (kB false), [], (.new [])⟩,
   ⟨(some 0), none, .mv (.t 35), [], (.new [])⟩]))
 .ret))))⟩
theorem a8_ok : afn Try.prog 8 = some a8.er := by kernel_rfl
theorem F8_ok {r : Bool} (h : F8 = some r) : CallD Try.prog 8 [] [] (tupV [.c (.d (.v (.bool r)))]) [] := by
  refine callS a8_ok (by simp [a8]) ?_
  rw [F8] at h
  simp only [a8, VW.down, Nat.reduceEqDiff, reduceCtorEq, Nat.reduceAdd, Nat.reduceLeDiff, Nat.reduceLT, Nat.reduceBEq, Nat.reduceSub, EE.down]
  obtain ⟨o1, ho, h⟩ := Option.bind_eq_some_iff.1 h
  refine cutS (fun s => s = ⟨[(1, .one (.c (.d (.sl (o1.map eExpectation)))))], []⟩) ?_ ?_
  · have h := ho
    clear ho
    simp only [VW.down, Nat.reduceEqDiff, reduceCtorEq, Nat.reduceAdd, Nat.reduceLeDiff, Nat.reduceLT, Nat.reduceBEq, Nat.reduceSub, EE.down]
    refine t_bslice (enc := eS) (ys := (lit [(⟨#[121]⟩ : ByteArray), (⟨#[120]⟩ : ByteArray), (⟨#[121]⟩ : ByteArray)])) rfl rfl (by simp [A1.cells]) (by first | rfl | (simp only [List.drop_zero, take_mapL]; rfl)) ?_
    simp only [VW.down, Nat.reduceEqDiff, reduceCtorEq, Nat.reduceAdd, Nat.reduceLeDiff, Nat.reduceLT, Nat.reduceBEq, Nat.reduceSub, EE.down]
    obtain ⟨t2, ht2, h⟩ := Option.bind_eq_some_iff.1 h
    refine callX_gen (as1 := [.c (.d (.sl [])), .c (.d (.v (.string ((⟨#[97]⟩ : ByteArray))))), .c (.d (.v (.int .i64 1))), .c (.d (.sl (((lit [(⟨#[121]⟩ : ByteArray), (⟨#[120]⟩ : ByteArray), (⟨#[121]⟩ : ByteArray)])).map eS))), .c (.d (.v (.int .i64 5)))]) [(0, .arr 1 1 [])] [none] [] (F10_ok ht2) ⟨?_, rfl, ?_⟩ ?_ ?_ ?_ ?_ ?_ ?_ ?_ ?_
    · simp only [ZZ.down, Nat.reduceEqDiff, reduceCtorEq, Nat.reduceAdd, Nat.reduceLeDiff, Nat.reduceLT, Nat.reduceBNe, EE.down]
    · simp only [ZZ.down, Nat.reduceEqDiff, reduceCtorEq, Nat.reduceAdd, Nat.reduceLeDiff, Nat.reduceLT, Nat.reduceBNe, EE.down]
    · simp only [ZZ.down, Nat.reduceEqDiff, reduceCtorEq, Nat.reduceAdd, Nat.reduceLeDiff, Nat.reduceLT, Nat.reduceBNe, EE.down]
    · rfl
    · rfl
    · simp [liveAll, A1.live, C.live]
    · rfl
    · decide
    · exact trivial
    simp only [VW.down, Nat.reduceEqDiff, reduceCtorEq, Nat.reduceAdd, Nat.reduceLeDiff, Nat.reduceLT, Nat.reduceBEq, Nat.reduceSub, EE.down]
    obtain rfl := Option.some.inj h
    exact eM [] rfl
  · rintro _ rfl
    clear ho
    simp only [VW.down, Nat.reduceEqDiff, reduceCtorEq, Nat.reduceAdd, Nat.reduceLeDiff, Nat.reduceLT, Nat.reduceBEq, Nat.reduceSub, EE.down]
    obtain ⟨t3, ht3, h⟩ := Option.bind_eq_some_iff.1 h
    refine callX_n [] (F12_ok ht3) ?_ ?_ ?_ ?_ ?_ ?_
    · first | rfl | simp [nrmA, nrmC, nrm, A1.ren, C.ren, rn, List.length_set]
    · simp [liveAll, A1.live, C.live]
    · rfl
    · decide
    · exact trivial
    simp only [VW.down, Nat.reduceEqDiff, reduceCtorEq, Nat.reduceAdd, Nat.reduceLeDiff, Nat.reduceLT, Nat.reduceBEq, Nat.reduceSub, EE.down]
    obtain ⟨t4, ht4, h⟩ := Option.bind_eq_some_iff.1 h
    refine callX_gen (as1 := [.c (.d (.sl (t3.map eExpectation))), .c (.d (.v (.string ((⟨#[97]⟩ : ByteArray))))), .c (.d (.v (.string ((⟨#[120]⟩ : ByteArray)))))]) [(0, .arr 1 4 [])] [none] [] (F14_ok ht4) ⟨?_, rfl, ?_⟩ ?_ ?_ ?_ ?_ ?_ ?_ ?_ ?_
    · simp only [ZZ.down, Nat.reduceEqDiff, reduceCtorEq, Nat.reduceAdd, Nat.reduceLeDiff, Nat.reduceLT, Nat.reduceBNe, EE.down]
    · simp only [ZZ.down, Nat.reduceEqDiff, reduceCtorEq, Nat.reduceAdd, Nat.reduceLeDiff, Nat.reduceLT, Nat.reduceBNe, EE.down]
    · simp only [ZZ.down, Nat.reduceEqDiff, reduceCtorEq, Nat.reduceAdd, Nat.reduceLeDiff, Nat.reduceLT, Nat.reduceBNe, EE.down]
    · rfl
    · rfl
    · simp [liveAll, A1.live, C.live]
    · rfl
    · decide
    · exact trivial
    simp only [VW.down, Nat.reduceEqDiff, reduceCtorEq, Nat.reduceAdd, Nat.reduceLeDiff, Nat.reduceLT, Nat.reduceBEq, Nat.reduceSub, EE.down]
    obtain ⟨t5, ht5, h⟩ := Option.bind_eq_some_iff.1 h
    refine callX_gen (as1 := [.c (.d (.sl (t4.map eExpectation))), .c (.d (.v (.string ((⟨#[97]⟩ : ByteArray))))), .c (.d (.v (.string ((⟨#[121]⟩ : ByteArray)))))]) [(1, .arr 1 4 [])] [some 0, none] [] (F14_ok ht5) ⟨?_, rfl, ?_⟩ ?_ ?_ ?_ ?_ ?_ ?_ ?_ ?_
    · simp only [ZZ.down, Nat.reduceEqDiff, reduceCtorEq, Nat.reduceAdd, Nat.reduceLeDiff, Nat.reduceLT, Nat.reduceBNe, EE.down]
    · simp only [ZZ.down, Nat.reduceEqDiff, reduceCtorEq, Nat.reduceAdd, Nat.reduceLeDiff, Nat.reduceLT, Nat.reduceBNe, EE.down]
    · simp only [ZZ.down, Nat.reduceEqDiff, reduceCtorEq, Nat.reduceAdd, Nat.reduceLeDiff, Nat.reduceLT, Nat.reduceBNe, EE.down]
    · rfl
    · rfl
    · simp [liveAll, A1.live, C.live]
    · rfl
    · decide
    · exact trivial
    simp only [VW.down, Nat.reduceEqDiff, reduceCtorEq, Nat.reduceAdd, Nat.reduceLeDiff, Nat.reduceLT, Nat.reduceBEq, Nat.reduceSub, EE.down]
    obtain ⟨o6, ho, h⟩ := Option.bind_eq_some_iff.1 h
    refine cutS (fun s => s = ⟨[(0, .one (.c (.d (.v (.bool o6)))))], []⟩) ?_ ?_
    · have h := ho
      clear ho
      simp only [VW.down, Nat.reduceEqDiff, reduceCtorEq, Nat.reduceAdd, Nat.reduceLeDiff, Nat.reduceLT, Nat.reduceBEq, Nat.reduceSub, EE.down]
      refine t_bslice (enc := eS) (ys := [(⟨#[120]⟩ : ByteArray), (⟨#[121]⟩ : ByteArray)]) rfl rfl (by simp [A1.cells]) (by first | rfl | (simp only [List.drop_zero, take_mapL]; rfl)) ?_
      simp only [VW.down, Nat.reduceEqDiff, reduceCtorEq, Nat.reduceAdd, Nat.reduceLeDiff, Nat.reduceLT, Nat.reduceBEq, Nat.reduceSub, EE.down]
      refine t_bslice (enc := eExpectation) (ys := [(⟨(⟨#[97]⟩ : ByteArray), 1, [(⟨#[120]⟩ : ByteArray), (⟨#[121]⟩ : ByteArray)], 5⟩ : Expectation)]) rfl rfl (by simp [A1.cells]) (by first | rfl | (simp only [List.drop_zero, take_mapL]; rfl)) ?_
      simp only [VW.down, Nat.reduceEqDiff, reduceCtorEq, Nat.reduceAdd, Nat.reduceLeDiff, Nat.reduceLT, Nat.reduceBEq, Nat.reduceSub, EE.down]
      obtain ⟨t7, ht7, h⟩ := Option.bind_eq_some_iff.1 h
      refine callX_bor (F9_ok ht7) (by simp only [borAs, bors, hp, List.getElem?_cons_zero, List.getElem?_cons_succ, Option.join_some, List.drop_zero, bor_full', true_and, Nat.zero_add, List.length_map, Nat.le_refl, nrm, List.length_cons, List.length_nil, Nat.reduceAdd, Nat.reduceLeDiff, List.take_succ_cons, List.take_zero, List.take_nil, List.map_cons, List.map_nil, List.length_set, EE.down]) rfl ?_
      simp only [VW.down, Nat.reduceEqDiff, reduceCtorEq, Nat.reduceAdd, Nat.reduceLeDiff, Nat.reduceLT, Nat.reduceBEq, Nat.reduceSub, EE.down]
      refine guardSB (fun g8 => ?_) (fun g8 => ?_)
      · have h := (if_pos g8).symm.trans h
        simp only [VW.down, Nat.reduceEqDiff, reduceCtorEq, Nat.reduceAdd, Nat.reduceLeDiff, Nat.reduceLT, Nat.reduceBEq, Nat.reduceSub, EE.down]
        refine guardS (fun g9 => ?_) (fun g9 => ?_)
        · have h := (if_pos g9).symm.trans h
          simp only [VW.down, Nat.reduceEqDiff, reduceCtorEq, Nat.reduceAdd, Nat.reduceLeDiff, Nat.reduceLT, Nat.reduceBEq, Nat.reduceSub, EE.down]
          obtain ⟨t10, ht10, h⟩ := Option.bind_eq_some_iff.1 h
          refine callX_n [] (F16_ok ht10) ?_ ?_ ?_ ?_ ?_ ?_
          · first | rfl | simp [nrmA, nrmC, nrm, A1.ren, C.ren, rn, List.length_set]
          · simp [liveAll, A1.live, C.live]
          · rfl
          · decide
          · exact trivial
          simp only [VW.down, Nat.reduceEqDiff, reduceCtorEq, Nat.reduceAdd, Nat.reduceLeDiff, Nat.reduceLT, Nat.reduceBEq, Nat.reduceSub, EE.down]
          refine guardSB (fun g11 => ?_) (fun g11 => ?_)
          · have h := (if_pos g11).symm.trans h
            simp only [VW.down, Nat.reduceEqDiff, reduceCtorEq, Nat.reduceAdd, Nat.reduceLeDiff, Nat.reduceLT, Nat.reduceBEq, Nat.reduceSub, EE.down]
            obtain ⟨t12, ht12, h⟩ := Option.bind_eq_some_iff.1 h
            refine callX_n [] (F16_ok ht12) ?_ ?_ ?_ ?_ ?_ ?_
            · first | rfl | simp [nrmA, nrmC, nrm, A1.ren, C.ren, rn, List.length_set]
            · simp [liveAll, A1.live, C.live]
            · rfl
            · decide
            · exact trivial
            simp only [VW.down, Nat.reduceEqDiff, reduceCtorEq, Nat.reduceAdd, Nat.reduceLeDiff, Nat.reduceLT, Nat.reduceBEq, Nat.reduceSub, EE.down]
            refine guardSB (fun g13 => ?_) (fun g13 => ?_)
            · have h := (if_pos g13).symm.trans h
              simp only [VW.down, Nat.reduceEqDiff, reduceCtorEq, Nat.reduceAdd, Nat.reduceLeDiff, Nat.reduceLT, Nat.reduceBEq, Nat.reduceSub, EE.down]
              obtain ⟨t14, ht14, h⟩ := Option.bind_eq_some_iff.1 h
              refine callX_bor (F16_ok ht14) (by simp only [borAs, bors, hp, List.getElem?_cons_zero, List.getElem?_cons_succ, Option.join_some, List.drop_zero, bor_full', true_and, Nat.zero_add, List.length_map, Nat.le_refl, nrm, List.length_cons, List.length_nil, Nat.reduceAdd, Nat.reduceLeDiff, List.take_succ_cons, List.take_zero, List.take_nil, List.map_cons, List.map_nil, List.length_set, EE.down]) rfl ?_
              simp only [VW.down, Nat.reduceEqDiff, reduceCtorEq, Nat.reduceAdd, Nat.reduceLeDiff, Nat.reduceLT, Nat.reduceBEq, Nat.reduceSub, EE.down]
              refine guardSB (fun g15 => ?_) (fun g15 => ?_)
              · have h := (if_pos g15).symm.trans h
                simp only [VW.down, Nat.reduceEqDiff, reduceCtorEq, Nat.reduceAdd, Nat.reduceLeDiff, Nat.reduceLT, Nat.reduceBEq, Nat.reduceSub, EE.down]
                obtain ⟨t16, ht16, h⟩ := Option.bind_eq_some_iff.1 h
                refine callX_n [] (F16_ok ht16) ?_ ?_ ?_ ?_ ?_ ?_
                · first | rfl | simp [nrmA, nrmC, nrm, A1.ren, C.ren, rn, List.length_set]
                · simp [liveAll, A1.live, C.live]
                · rfl
                · decide
                · exact trivial
                simp only [VW.down, Nat.reduceEqDiff, reduceCtorEq, Nat.reduceAdd, Nat.reduceLeDiff, Nat.reduceLT, Nat.reduceBEq, Nat.reduceSub, EE.down]
                obtain rfl := Option.some.inj h
                exact eM [] rfl
              · have h := (if_neg g15).symm.trans h
                simp only [VW.down, Nat.reduceEqDiff, reduceCtorEq, Nat.reduceAdd, Nat.reduceLeDiff, Nat.reduceLT, Nat.reduceBEq, Nat.reduceSub, EE.down]
                obtain rfl := Option.some.inj h
                exact eM [] rfl
            · have h := (if_neg g13).symm.trans h
              simp only [VW.down, Nat.reduceEqDiff, reduceCtorEq, Nat.reduceAdd, Nat.reduceLeDiff, Nat.reduceLT, Nat.reduceBEq, Nat.reduceSub, EE.down]
              obtain rfl := Option.some.inj h
              exact eM [] rfl
          · have h := (if_neg g11).symm.trans h
            simp only [VW.down, Nat.reduceEqDiff, reduceCtorEq, Nat.reduceAdd, Nat.reduceLeDiff, Nat.reduceLT, Nat.reduceBEq, Nat.reduceSub, EE.down]
            obtain rfl := Option.some.inj h
            exact eM [] rfl
        · have h := (if_neg g9).symm.trans h
          simp only [VW.down, Nat.reduceEqDiff, reduceCtorEq, Nat.reduceAdd, Nat.reduceLeDiff, Nat.reduceLT, Nat.reduceBEq, Nat.reduceSub, EE.down]
          obtain rfl := Option.some.inj h
          exact eM [] rfl
      · have h := (if_neg g8).symm.trans h
        simp only [VW.down, Nat.reduceEqDiff, reduceCtorEq, Nat.reduceAdd, Nat.reduceLeDiff, Nat.reduceLT, Nat.reduceBEq, Nat.reduceSub, EE.down]
        obtain rfl := Option.some.inj h
        exact eM [] rfl
    · rintro _ rfl
      clear ho
      simp only [VW.down, Nat.reduceEqDiff, reduceCtorEq, Nat.reduceAdd, Nat.reduceLeDiff, Nat.reduceLT, Nat.reduceBEq, Nat.reduceSub, EE.down]
      obtain rfl := Option.some.inj h
      exact eF []

/- orchestrator/orchestratorref32.limit -/
def F28 (x0 : Int) (x1 : Int) : Option (Unit) := some (())
def a28 : AFn := ⟨9, [(.tmp 4)],
 (.seq (.reg [⟨(some 4), none, .mv (kI 0), [], (.new [])⟩])
 (.seq (.reg [⟨(some 5), none, .mv (.t 1), [], (.new [])⟩,
   ⟨(some 6), none, .mv (.t 0), [], (.new [])⟩,
   ⟨(some 7), none, .max (kI 0) (.t 6), [], (.new [])⟩,
   ⟨(some 8), none, .min (.t 5) (.t 7), [], (.new [])⟩,
   ⟨(some 4), none, .mv (.t 8), [], (.new [])⟩])
 .ret))⟩
theorem a28_ok : afn Try.prog 28 = some a28.er := by kernel_rfl
theorem F28_ok {x0 : Int} {x1 : Int} {r : Unit} (h : F28 x0 x1 = some r) : CallD Try.prog 28 [.c (.d (.v (.int .i64 x0))), .c (.d (.v (.int .i64 x1)))] [] (tupV [.c (.d (.v (.int .i64 ((if (if 0 < x0 then x0 else 0) < x1 then (if 0 < x0 then x0 else 0) else x1)))))]) [] := by
  refine callS a28_ok (by simp [a28]) ?_
  rw [F28] at h
  simp only [a28, VW.down, Nat.reduceEqDiff, reduceCtorEq, Nat.reduceAdd, Nat.reduceLeDiff, Nat.reduceLT, Nat.reduceBEq, Nat.reduceSub, EE.down]
  obtain rfl := Option.some.inj h
  exact eF []

/- orchestrator/orchestratorref32.Set -/
def F18_l4 (o1_0 : List ByteArray) (xo1 : ByteArray) : Nat → Int → Option (Int)
  | 0, _ => none
  | k + 1, o4_0 => (((if o4_0 < (o1_0.length : Int) then (rdI o1_0 o4_0).bind fun y7 => some (Op.bytesLess y7.toList xo1.toList) else some false)).bind fun o5 => (if o5 = true then F18_l4 o1_0 xo1 k ((IntKind.i64.wrap (o4_0 + 1))) else some o4_0))
def F18_l1  : List ByteArray → Nat → (List ByteArray) → Option ((List ByteArray))
  | [], o1_1, o1_0 => some o1_0
  | xo1 :: xs, o1_1, o1_0 => ((((F18_l4 o1_0 xo1 1099511627776 0).bind fun o4 => (((if o4 < (o1_0.length : Int) then (rdI o1_0 o4).bind fun y11 => some (decide (y11 = xo1)) else some false)).bind fun o9 => (if o9 = true then some o1_0 else (slI o1_0 0 o4).bind fun s13 => (apI ([] : List ByteArray) s13).bind fun a14 => (apI a14 ([xo1])).bind fun a15 => (slI o1_0 o4 ((o1_0.length : Int))).bind fun s16 => (apI a15 s16).bind fun a17 => some a17)))).bind fun o3 => F18_l1  xs (o1_1 + 1) o3)
def F18 (x0 : (List ByteArray)) : Option ((List ByteArray)) := (((ck (0 ≤ x0.length ∧ x0.length ≤ 4294967290)).bind fun u18 => F18_l1 x0 0 ([])).bind fun o1 => some o1)
def a18 : AFn := ⟨64, [(.tmp 2)],
 (.seq (.reg [⟨(some 2), none, .mv kN, [], (.new [])⟩])
 (.seq (.reg [⟨(some 3), none, .mv kN, [], (.new [])⟩])
 (.seq (.seq (.reg [⟨(some 4), none, .mv (kI 0), [], (.new [])⟩])
 (.sem (.block 0 (.loop (.seq (.seq (.reg [⟨(some 7), none, .mv (.t 4), [], (.new [])⟩,
   ⟨(some 8), none, .mv (.t 0), [], (.new [])⟩,
   ⟨(some 9), none, .len (.t 8), [], (.new [])⟩,
   ⟨(some 10), none, .bin .lss (.t 7) (.t 9), [], (.new [])⟩])
 (.cond (.t 10)
 .skip
 (.exit 0)))
 (.seq (.sem (.block 1 (.seq (.reg [⟨(some 5), none, .mv (kI 0), [], (.new [])⟩])
 (.seq (.sem (.block 2 (.loop (.seq (.seq (.sem (.regd [⟨(some 13), none, .mv (.t 5), [], (.new [])⟩,
   ⟨(some 14), none, .mv (.t 3), [], (.new [])⟩,
   ⟨(some 15), none, .len (.t 14), [1], (.new [])⟩,
   ⟨(some 16), none, .bin .lss (.t 13) (.t 15), [0, 1, 2], (.new [])⟩,
   ⟨(some 17), none, .mv (.t 16), [0, 1, 2, 3], (.new [])⟩,
   ⟨(some 18), (some (17, true)), .mv (.t 3), [0, 1, 2, 3, 4], (.new [])⟩,
   ⟨(some 19), (some (17, true)), .mv (.t 5), [0, 1, 2, 3, 4], (.new [])⟩,
   ⟨(some 20), (some (17, true)), .indexA 1 (.t 18) (.t 19), [0, 1, 2, 3, 4, 5, 6], (.new [])⟩,
   ⟨(some 21), (some (17, true)), .load none (.t 20), [0, 1, 2, 3, 4, 5, 6, 7], (.new [])⟩,
   ⟨(some 22), (some (17, true)), .mv (.t 0), [0, 1, 2, 3, 4], (.new [])⟩,
   ⟨(some 23), (some (17, true)), .mv (.t 4), [0, 1, 2, 3, 4], (.new [])⟩,
   ⟨(some 24), (some (17, true)), .indexA 1 (.t 22) (.t 23), [0, 1, 2, 3, 4, 9, 10], (.new [])⟩,
   ⟨(some 25), (some (17, true)), .load none (.t 24), [0, 1, 2, 3, 4, 9, 10, 11], (.new [])⟩,
   ⟨(some 26), (some (17, true)), .bin .lss (.t 21) (.t 25), [0, 1, 2, 3, 4, 5, 6, 7, 8, 9, 10, 11, 12], (.new [])⟩,
   ⟨(some 27), none, .pick (.t 17) (.t 26) (kB false), [0, 1, 2, 3, 4, 5, 6, 7, 8, 9, 10, 11, 12, 13], (.lone [])⟩]))
 (.cond (.t 27)
 .skip
 (.exit 2)))
 (.block 3 (.reg [⟨(some 28), none, .mv (.t 5), [], (.new [])⟩,
   ⟨(some 29), none, .bin .add (.t 28) (kI 1), [], (.new [])⟩,
   ⟨(some 5), none, .mv (.t 29), [], (.new [])⟩]))))))
 (.seq (.seq (.sem (.regd [⟨(some 30), none, .mv (.t 5), [], (.new [])⟩,
   ⟨(some 31), none, .mv (.t 3), [], (.new [])⟩,
   ⟨(some 32), none, .len (.t 31), [1], (.new [])⟩,
   ⟨(some 33), none, .bin .lss (.t 30) (.t 32), [0, 1, 2], (.new [])⟩,
   ⟨(some 34), none, .mv (.t 33), [0, 1, 2, 3], (.new [])⟩,
   ⟨(some 35), (some (34, true)), .mv (.t 3), [0, 1, 2, 3, 4], (.new [])⟩,
   ⟨(some 36), (some (34, true)), .mv (.t 5), [0, 1, 2, 3, 4], (.new [])⟩,
   ⟨(some 37), (some (34, true)), .indexA 1 (.t 35) (.t 36), [0, 1, 2, 3, 4, 5, 6], (.new [])⟩,
   ⟨(some 38), (some (34, true)), .load none (.t 37), [0, 1, 2, 3, 4, 5, 6, 7], (.new [])⟩,
   ⟨(some 39), (some (34, true)), .mv (.t 0), [0, 1, 2, 3, 4], (.new [])⟩,
   ⟨(some 40), (some (34, true)), .mv (.t 4), [0, 1, 2, 3, 4], (.new [])⟩,
   ⟨(some 41), (some (34, true)), .indexA 1 (.t 39) (.t 40), [0, 1, 2, 3, 4, 9, 10], (.new [])⟩,
   ⟨(some 42), (some (34, true)), .load none (.t 41), [0, 1, 2, 3, 4, 9, 10, 11], (.new [])⟩,
   ⟨(some 43), (some (34, true)), .bin .eql (.t 38) (.t 42), [0, 1, 2, 3, 4, 5, 6, 7, 8, 9, 10, 11, 12], (.new [])⟩,
   ⟨(some 44), none, .pick (.t 34) (.t 43) (kB false), [0, 1, 2, 3, 4, 5, 6, 7, 8, 9, 10, 11, 12, 13], (.lone [])⟩]))
 (.cond (.t 44)
 (.exit 1)
 .skip))
 (.seq (.reg [⟨(some 6), none, .mv kN, [], (.new [])⟩])
 (.seq (.reg [⟨(some 45), none, .mv (.t 6), [], (.new [])⟩,
   ⟨(some 46), none, .mv (.t 3), [], (.new [])⟩,
   ⟨(some 47), none, .mv (.t 5), [], (.new [])⟩,
   ⟨(some 48), none, .slice 1 (.t 46) none (some (.t 47)) none, [], (.new [])⟩,
   ⟨(some 49), none, .app 1 16 (.t 45) (.t 48), [], (.new [])⟩,
   ⟨(some 6), none, .mv (.t 49), [], (.new [])⟩])
 (.seq (.reg [⟨(some 50), none, .mv (.t 6), [], (.new [])⟩,
   ⟨(some 51), none, .mv (.t 0), [], (.new [])⟩,
   ⟨(some 52), none, .mv (.t 4), [], (.new [])⟩,
   ⟨(some 53), none, .indexA 1 (.t 51) (.t 52), [], (.new [])⟩,
   ⟨(some 54), none, .load none (.t 53), [], (.new [])⟩,
   ⟨(some 55), none, .bslice 1 [(.t 54)], [], (.new [])⟩,
   ⟨(some 56), none, .app 1 16 (.t 50) (.t 55), [], (.new [])⟩,
   ⟨(some 6), none, .mv (.t 56), [], (.new [])⟩])
 (.seq (.reg [⟨(some 57), none, .mv (.t 6), [], (.new [])⟩,
   ⟨(some 58), none, .mv (.t 3), [], (.new [])⟩,
   ⟨(some 59), none, .mv (.t 5), [], (.new [])⟩,
   ⟨(some 60), none, .slice 1 (.t 58) (some (.t 59)) none none, [], (.new [])⟩,
   ⟨(some 61), none, .app 1 16 (.t 57) (.t 60), [], (.new [])⟩,
   ⟨(some 6), none, .mv (.t 61), [], (.new [])⟩])
 (.reg [⟨(some 62), none, .mv (.t 6), [], (.new [])⟩,
   ⟨(some 3), none, .mv (.t 62), [], (.new [])⟩]))))))))))
 (.reg [⟨(some 11), none, .mv (.t 4), [], (.new [])⟩,
   ⟨(some 12), none, .bin .add (.t 11) (kI 1), [], (.new [])⟩,
   ⟨(some 4), none, .mv (.t 12), [], (.new [])⟩])))))))
 (.seq (.reg [⟨(some 63), none, .mv (.t 3), [], (.new [])⟩,
   ⟨(some 2), none, .mv (.t 63), [], (.new [])⟩])
 .ret))))⟩
theorem a18_ok : afn Try.prog 18 = some a18.er := by kernel_rfl
theorem F18_ok {x0 : (List ByteArray)} {r : (List ByteArray)} (h : F18 x0 = some r) : CallD Try.prog 18 [.c (.d (.sl (x0.map eS)))] [] (tupV [.c (.own 0 0 0 (r.length) none)]) [some (.arr 0 1 (r.map eS))] := by
  refine callS a18_ok (by simp [a18]) ?_
  rw [F18] at h
  simp only [a18, VW.down, Nat.reduceEqDiff, reduceCtorEq, Nat.reduceAdd, Nat.reduceLeDiff, Nat.reduceLT, Nat.reduceBEq, Nat.reduceSub, EE.down]
  obtain ⟨o1, ho, h⟩ := Option.bind_eq_some_iff.1 h
  refine cutS (fun s => s = ⟨[(3, .one (.c (.own 0 0 0 (o1.length) none)))], [some (.arr 0 1 (o1.map eS))]⟩) ?_ ?_
  · have h := ho
    clear ho
    obtain ⟨_, hk, h⟩ := Option.bind_eq_some_iff.1 h
    have hk := ck_some hk
    simp only [VW.down, Nat.reduceEqDiff, reduceCtorEq, Nat.reduceAdd, Nat.reduceLeDiff, Nat.reduceLT, Nat.reduceBEq, Nat.reduceSub, EE.down]
    refine bL (fun j s => ∃ (o1_1 : Nat) (o1_0 : List ByteArray), (o1_1 ≤ x0.length ∧ j = x0.length - o1_1) ∧ s = ⟨[(0, .one (.c (.d (.sl (x0.map eS))))), (3, .one (.c (.own 0 0 0 (o1_0.length) none))), (4, .one (.c (.d (.v (.int .i64 ((o1_1 : Int)))))))], [some (.arr 0 1 (o1_0.map eS))]⟩ ∧ F18_l1 (x0.drop o1_1) o1_1 o1_0 = some o1) (x0.length - 0) [none] ⟨0, [], ⟨hk.1, rfl⟩, rfl, h⟩ ?_
    rintro _ _ ⟨o1_1, o1_0, ⟨hi, rfl⟩, rfl, h⟩
    simp only [VW.down, Nat.reduceEqDiff, reduceCtorEq, Nat.reduceAdd, Nat.reduceLeDiff, Nat.reduceLT, Nat.reduceBEq, Nat.reduceSub, EE.down]
    refine condS (fun c2 => ?_) (fun c2 => ?_)
    · obtain ⟨xo1, hxo1, hd⟩ := countY (show (o1_1 : Int) < (x0.length : Int) from c2)
      rw [hd, F18_l1] at h
      simp only [VW.down, Nat.reduceEqDiff, reduceCtorEq, Nat.reduceAdd, Nat.reduceLeDiff, Nat.reduceLT, Nat.reduceBEq, Nat.reduceSub, EE.down]
      obtain ⟨o3, ho, h⟩ := Option.bind_eq_some_iff.1 h
      refine cutS (fun s => s = ⟨[(0, .one (.c (.d (.sl (x0.map eS))))), (3, .one (.c (.own 0 0 0 (o3.length) none))), (4, .one (.c (.d (.v (.int .i64 ((o1_1 : Int)))))))], [some (.arr 0 1 (o3.map eS))]⟩) ?_ ?_
      · have h := ho
        clear ho
        simp only [VW.down, Nat.reduceEqDiff, reduceCtorEq, Nat.reduceAdd, Nat.reduceLeDiff, Nat.reduceLT, Nat.reduceBEq, Nat.reduceSub, EE.down]
        obtain ⟨o4, ho, h⟩ := Option.bind_eq_some_iff.1 h
        refine cutS (fun s => s = ⟨[(0, .one (.c (.d (.sl (x0.map eS))))), (3, .one (.c (.own 0 0 0 (o1_0.length) none))), (4, .one (.c (.d (.v (.int .i64 ((o1_1 : Int))))))), (5, .one (.c (.d (.v (.int .i64 o4)))))], [some (.arr 0 1 (o1_0.map eS))]⟩) ?_ ?_
        · have h := ho
          clear ho
          simp only [VW.down, Nat.reduceEqDiff, reduceCtorEq, Nat.reduceAdd, Nat.reduceLeDiff, Nat.reduceLT, Nat.reduceBEq, Nat.reduceSub, EE.down]
          refine bL (fun j s => ∃ (o4_0 : Int), s = ⟨[(0, .one (.c (.d (.sl (x0.map eS))))), (3, .one (.c (.own 0 0 0 (o1_0.length) none))), (4, .one (.c (.d (.v (.int .i64 ((o1_1 : Int))))))), (5, .one (.c (.d (.v (.int .i64 o4_0)))))], [some (.arr 0 1 (o1_0.map eS))]⟩ ∧ F18_l4 o1_0 xo1 j o4_0 = some o4) 1099511627776 [some 0] ⟨0, rfl, h⟩ ?_
          rintro j _ ⟨o4_0, rfl, h⟩
          cases j with
          | zero => cases (show (none : Option _) = some _ from h)
          | succ j =>
            rw [F18_l4] at h
            simp only [VW.down, Nat.reduceEqDiff, reduceCtorEq, Nat.reduceAdd, Nat.reduceLeDiff, Nat.reduceLT, Nat.reduceBEq, Nat.reduceSub, EE.down]
            obtain ⟨o5, ho, h⟩ := Option.bind_eq_some_iff.1 h
            refine cutS (fun s => s = ⟨[(0, .one (.c (.d (.sl (x0.map eS))))), (3, .one (.c (.own 0 0 0 (o1_0.length) none))), (4, .one (.c (.d (.v (.int .i64 ((o1_1 : Int))))))), (5, .one (.c (.d (.v (.int .i64 o4_0))))), (27, .one (.c (.d (.v (.bool o5)))))], [some (.arr 0 1 (o1_0.map eS))]⟩) ?_ ?_
            · have h := ho
              clear ho
              simp only [VW.down, Nat.reduceEqDiff, reduceCtorEq, Nat.reduceAdd, Nat.reduceLeDiff, Nat.reduceLT, Nat.reduceBEq, Nat.reduceSub, EE.down]
              refine guardD (fun g6 => ?_) (fun g6 => ?_)
              · have h := (if_pos g6).symm.trans h
                simp only [VW.down, Nat.reduceEqDiff, reduceCtorEq, Nat.reduceAdd, Nat.reduceLeDiff, Nat.reduceLT, Nat.reduceBEq, Nat.reduceSub, EE.down]
                obtain ⟨y7, hy7, h⟩ := Option.bind_eq_some_iff.1 h
                refine t_idxO (enc := eS) (xs := o1_0) rfl rfl rfl (by first | rfl | simp only [List.length_set] | exact (clrL_len (slI_len (by assumption))).symm) hy7 ?_
                simp only [VW.down, Nat.reduceEqDiff, reduceCtorEq, Nat.reduceAdd, Nat.reduceLeDiff, Nat.reduceLT, Nat.reduceBEq, Nat.reduceSub, EE.down]
                refine LdRow.rd (rdI_some hy7).2.1 ?_
                simp only [VW.down, Nat.reduceEqDiff, reduceCtorEq, Nat.reduceAdd, Nat.reduceLeDiff, Nat.reduceLT, Nat.reduceBEq, Nat.reduceSub, EE.down]
                refine t_idxF (enc := eS) (xs := x0) rfl rfl hxo1 rfl ?_
                simp only [VW.down, Nat.reduceEqDiff, reduceCtorEq, Nat.reduceAdd, Nat.reduceLeDiff, Nat.reduceLT, Nat.reduceBEq, Nat.reduceSub, EE.down]
                obtain rfl := Option.some.inj h
                exact eM [some 0] rfl
              · have h := (if_neg g6).symm.trans h
                simp only [VW.down, Nat.reduceEqDiff, reduceCtorEq, Nat.reduceAdd, Nat.reduceLeDiff, Nat.reduceLT, Nat.reduceBEq, Nat.reduceSub, EE.down]
                obtain rfl := Option.some.inj h
                exact eM [some 0] rfl
            · rintro _ rfl
              clear ho
              simp only [VW.down, Nat.reduceEqDiff, reduceCtorEq, Nat.reduceAdd, Nat.reduceLeDiff, Nat.reduceLT, Nat.reduceBEq, Nat.reduceSub, EE.down]
              refine condB (fun c8 => ?_) (fun c8 => ?_)
              · have h := (if_pos c8).symm.trans h
                simp only [VW.down, Nat.reduceEqDiff, reduceCtorEq, Nat.reduceAdd, Nat.reduceLeDiff, Nat.reduceLT, Nat.reduceBEq, Nat.reduceSub, EE.down]
                exact eL' j [some 0] ⟨(IntKind.i64.wrap (o4_0 + 1)), rfl, h⟩ (Nat.lt_succ_self _)
              · have h := (if_neg c8).symm.trans h
                simp only [VW.down, Nat.reduceEqDiff, reduceCtorEq, Nat.reduceAdd, Nat.reduceLeDiff, Nat.reduceLT, Nat.reduceBEq, Nat.reduceSub, EE.down]
                obtain rfl := Option.some.inj h
                exact eM [some 0] rfl
        · rintro _ rfl
          clear ho
          simp only [VW.down, Nat.reduceEqDiff, reduceCtorEq, Nat.reduceAdd, Nat.reduceLeDiff, Nat.reduceLT, Nat.reduceBEq, Nat.reduceSub, EE.down]
          obtain ⟨o9, ho, h⟩ := Option.bind_eq_some_iff.1 h
          refine cutS (fun s => s = ⟨[(0, .one (.c (.d (.sl (x0.map eS))))), (3, .one (.c (.own 0 0 0 (o1_0.length) none))), (4, .one (.c (.d (.v (.int .i64 ((o1_1 : Int))))))), (5, .one (.c (.d (.v (.int .i64 o4))))), (44, .one (.c (.d (.v (.bool o9)))))], [some (.arr 0 1 (o1_0.map eS))]⟩) ?_ ?_
          · have h := ho
            clear ho
            simp only [VW.down, Nat.reduceEqDiff, reduceCtorEq, Nat.reduceAdd, Nat.reduceLeDiff, Nat.reduceLT, Nat.reduceBEq, Nat.reduceSub, EE.down]
            refine guardD (fun g10 => ?_) (fun g10 => ?_)
            · have h := (if_pos g10).symm.trans h
              simp only [VW.down, Nat.reduceEqDiff, reduceCtorEq, Nat.reduceAdd, Nat.reduceLeDiff, Nat.reduceLT, Nat.reduceBEq, Nat.reduceSub, EE.down]
              obtain ⟨y11, hy11, h⟩ := Option.bind_eq_some_iff.1 h
              refine t_idxO (enc := eS) (xs := o1_0) rfl rfl rfl (by first | rfl | simp only [List.length_set] | exact (clrL_len (slI_len (by assumption))).symm) hy11 ?_
              simp only [VW.down, Nat.reduceEqDiff, reduceCtorEq, Nat.reduceAdd, Nat.reduceLeDiff, Nat.reduceLT, Nat.reduceBEq, Nat.reduceSub, EE.down]
              refine LdRow.rd (rdI_some hy11).2.1 ?_
              simp only [VW.down, Nat.reduceEqDiff, reduceCtorEq, Nat.reduceAdd, Nat.reduceLeDiff, Nat.reduceLT, Nat.reduceBEq, Nat.reduceSub, EE.down]
              refine t_idxF (enc := eS) (xs := x0) rfl rfl hxo1 rfl ?_
              simp only [VW.down, Nat.reduceEqDiff, reduceCtorEq, Nat.reduceAdd, Nat.reduceLeDiff, Nat.reduceLT, Nat.reduceBEq, Nat.reduceSub, EE.down]
              obtain rfl := Option.some.inj h
              exact eM [some 0] rfl
            · have h := (if_neg g10).symm.trans h
              simp only [VW.down, Nat.reduceEqDiff, reduceCtorEq, Nat.reduceAdd, Nat.reduceLeDiff, Nat.reduceLT, Nat.reduceBEq, Nat.reduceSub, EE.down]
              obtain rfl := Option.some.inj h
              exact eM [some 0] rfl
          · rintro _ rfl
            clear ho
            simp only [VW.down, Nat.reduceEqDiff, reduceCtorEq, Nat.reduceAdd, Nat.reduceLeDiff, Nat.reduceLT, Nat.reduceBEq, Nat.reduceSub, EE.down]
            refine condB (fun c12 => ?_) (fun c12 => ?_)
            · have h := (if_pos c12).symm.trans h
              simp only [VW.down, Nat.reduceEqDiff, reduceCtorEq, Nat.reduceAdd, Nat.reduceLeDiff, Nat.reduceLT, Nat.reduceBEq, Nat.reduceSub, EE.down]
              obtain rfl := Option.some.inj h
              exact eM [some 0] rfl
            · have h := (if_neg c12).symm.trans h
              simp only [VW.down, Nat.reduceEqDiff, reduceCtorEq, Nat.reduceAdd, Nat.reduceLeDiff, Nat.reduceLT, Nat.reduceBEq, Nat.reduceSub, EE.down]
              obtain ⟨s13, hs13, h⟩ := Option.bind_eq_some_iff.1 h
              refine t_sliceO (enc := eS) (xs := o1_0) rfl rfl (by first | rfl | simp only [List.length_set] | exact (clrL_len (slI_len (by assumption))).symm) rfl (by first | rfl | simp only [intV, List.length_set]) hs13 ?_
              simp only [VW.down, Nat.reduceEqDiff, reduceCtorEq, Nat.reduceAdd, Nat.reduceLeDiff, Nat.reduceLT, Nat.reduceBEq, Nat.reduceSub, EE.down]
              obtain ⟨a14, ha14, h⟩ := Option.bind_eq_some_iff.1 h
              refine t_appN (enc := eS) rfl rfl (rows_slI (enc := eS) hs13 rfl rfl rfl) ha14 ?_
              simp only [VW.down, Nat.reduceEqDiff, reduceCtorEq, Nat.reduceAdd, Nat.reduceLeDiff, Nat.reduceLT, Nat.reduceBEq, Nat.reduceSub, EE.down]
              refine t_idxF (enc := eS) (xs := x0) rfl rfl hxo1 rfl ?_
              simp only [VW.down, Nat.reduceEqDiff, reduceCtorEq, Nat.reduceAdd, Nat.reduceLeDiff, Nat.reduceLT, Nat.reduceBEq, Nat.reduceSub, EE.down]
              refine t_bslice (enc := eS) (ys := [xo1]) rfl rfl (by simp [A1.cells]) (by first | rfl | (simp only [List.drop_zero, take_mapL]; rfl)) ?_
              simp only [VW.down, Nat.reduceEqDiff, reduceCtorEq, Nat.reduceAdd, Nat.reduceLeDiff, Nat.reduceLT, Nat.reduceBEq, Nat.reduceSub, EE.down]
              obtain ⟨a15, ha15, h⟩ := Option.bind_eq_some_iff.1 h
              refine t_app (enc := eS) (xs := a14) rfl rfl (by first | rfl | simp only [List.length_set] | exact (clrL_len (slI_len (by assumption))).symm) rfl (rows_full (enc := eS) (by first | rfl | simp only [List.length_set] | exact (clrL_len (slI_len (by assumption))).symm) rfl) ha15 ?_
              simp only [VW.down, Nat.reduceEqDiff, reduceCtorEq, Nat.reduceAdd, Nat.reduceLeDiff, Nat.reduceLT, Nat.reduceBEq, Nat.reduceSub, EE.down]
              obtain ⟨s16, hs16, h⟩ := Option.bind_eq_some_iff.1 h
              refine t_sliceO (enc := eS) (xs := o1_0) rfl rfl (by first | rfl | simp only [List.length_set] | exact (clrL_len (slI_len (by assumption))).symm) rfl (by first | rfl | simp only [intV, List.length_set]) hs16 ?_
              simp only [VW.down, Nat.reduceEqDiff, reduceCtorEq, Nat.reduceAdd, Nat.reduceLeDiff, Nat.reduceLT, Nat.reduceBEq, Nat.reduceSub, EE.down]
              obtain ⟨a17, ha17, h⟩ := Option.bind_eq_some_iff.1 h
              refine t_app (enc := eS) (xs := a15) rfl rfl (by first | rfl | simp only [List.length_set] | exact (clrL_len (slI_len (by assumption))).symm) rfl (rows_slI (enc := eS) hs16 rfl rfl rfl) ha17 ?_
              simp only [VW.down, Nat.reduceEqDiff, reduceCtorEq, Nat.reduceAdd, Nat.reduceLeDiff, Nat.reduceLT, Nat.reduceBEq, Nat.reduceSub, EE.down]
              obtain rfl := Option.some.inj h
              exact eM [some 1] rfl
      · rintro _ rfl
        clear ho
        simp only [VW.down, Nat.reduceEqDiff, reduceCtorEq, Nat.reduceAdd, Nat.reduceLeDiff, Nat.reduceLT, Nat.reduceBEq, Nat.reduceSub, EE.down]
        rw [wrapN (by omega)]
        exact eL' (x0.length - (o1_1 + 1)) [some 0] ⟨o1_1 + 1, o3, ⟨by omega, rfl⟩, rfl, h⟩ (by omega)
    · rw [countN (show ¬ ((o1_1 : Int) < (x0.length : Int)) from c2), F18_l1] at h
      simp only [VW.down, Nat.reduceEqDiff, reduceCtorEq, Nat.reduceAdd, Nat.reduceLeDiff, Nat.reduceLT, Nat.reduceBEq, Nat.reduceSub, EE.down]
      obtain rfl := Option.some.inj h
      exact eM [some 0] rfl
  · rintro _ rfl
    clear ho
    simp only [VW.down, Nat.reduceEqDiff, reduceCtorEq, Nat.reduceAdd, Nat.reduceLeDiff, Nat.reduceLT, Nat.reduceBEq, Nat.reduceSub, EE.down]
    obtain rfl := Option.some.inj h
    exact eF [some 0]

/- orchestrator/orchestratorref32.put -/
def F27_l3 (x1 : Expectation) : List Expectation → Nat → (List Expectation) → Bool → Option ((List Expectation) × Bool)
  | [], o3_2, o3_0, o3_1 => some ((o3_0, o3_1))
  | xo3 :: xs, o3_2, o3_0, o3_1 => (((((((if (nb o3_1) = true then some (nb (Op.bytesLess xo3.Key.toList x1.Key.toList || decide (xo3.Key = x1.Key))) else some false)).bind fun o7 => (if o7 = true then (apI o3_0 ([x1])).bind fun a10 => some ((a10, true)) else some ((o3_0, o3_1))))).bind fun o6 => (if ¬ (xo3.Key = x1.Key) then (apI o6.1 ([xo3])).bind fun a12 => some ((a12, o6.2)) else some ((o6.1, o6.2))))).bind fun o5 => F27_l3 x1 xs (o3_2 + 1) o5.1 o5.2)
def F27 (x0 : (List Expectation)) (x1 : Expectation) : Option ((List Expectation)) := (((if x1.Creates = 0 then some (decide ((x1.Deletes.length : Int) = 0)) else some false)).bind fun o1 => (((ck (0 ≤ x0.length ∧ x0.length ≤ 4294967290)).bind fun u13 => F27_l3 x1 x0 0 ([]) o1).bind fun o3 => (if (nb o3.2) = true then (apI o3.1 ([x1])).bind fun a15 => some a15 else some o3.1)))
def a27 : AFn := ⟨61, [(.tmp 4)],
 (.seq (.reg [⟨(some 3), none, .box (.t 1), [], (.new [])⟩,
   ⟨(some 4), none, .mv kN, [], (.new [])⟩])
 (.seq (.reg [⟨(some 5), none, .mv kN, [], (.new [])⟩])
 (.seq (.sem (.reg [⟨(some 8), none, .fieldA 1 (.t 3), [], (.new [])⟩,
   ⟨(some 9), none, .load none (.t 8), [], (.new [])⟩,
   ⟨(some 10), none, .bin .eql (.t 9) (kI 0), [], (.new [])⟩,
   ⟨(some 11), none, .mv (.t 10), [], (.new [])⟩,
   ⟨(some 12), (some (11, true)), .fieldA 2 (.t 3), [], (.new [])⟩,
   ⟨(some 13), (some (11, true)), .load none (.t 12), [], (.new [])⟩,
   ⟨(some 14), (some (11, true)), .len (.t 13), [], (.new [])⟩,
   ⟨(some 15), (some (11, true)), .bin .eql (.t 14) (kI 0), [], (.new [])⟩,
   ⟨(some 16), none, .pick (.t 11) (.t 15) (kB false), [], (.new [])⟩,
   ⟨(some 6), none, .mv (.t 16), [], (.new [])⟩]))
 (.seq (.seq (.reg [⟨(some 7), none, .mv (kI 0), [], (.new [])⟩])
 (.sem (.block 0 (.loop (.seq (.seq (.reg [⟨(some 17), none, .mv (.t 7), [], (.new [])⟩,
   ⟨(some 18), none, .mv (.t 0), [], (.new [])⟩,
   ⟨(some 19), none, .len (.t 18), [], (.new [])⟩,
   ⟨(some 20), none, .bin .lss (.t 17) (.t 19), [], (.new [])⟩])
 (.cond (.t 20)
 .skip
 (.exit 0)))
 (.seq (.sem (.block 1 (.seq (.sem (.seq (.sem (.regd [⟨(some 23), none, .mv (.t 6), [], (.new [])⟩,
   ⟨(some 24), none, .not (.t 23), [0], (.new [])⟩,
   ⟨(some 25), none, .mv (.t 24), [0, 1], (.new [])⟩,
   ⟨(some 26), (some (25, true)), .mv (.t 0), [0, 1, 2], (.new [])⟩,
   ⟨(some 27), (some (25, true)), .mv (.t 7), [0, 1, 2], (.new [])⟩,
   ⟨(some 28), (some (25, true)), .indexA 4 (.t 26) (.t 27), [0, 1, 2, 3, 4], (.new [])⟩,
   ⟨(some 29), (some (25, true)), .fieldA 0 (.t 28), [0, 1, 2, 3, 4, 5], (.new [])⟩,
   ⟨(some 30), (some (25, true)), .load none (.t 29), [0, 1, 2, 3, 4, 5, 6], (.new [])⟩,
   ⟨(some 31), (some (25, true)), .fieldA 0 (.t 3), [0, 1, 2], (.new [])⟩,
   ⟨(some 32), (some (25, true)), .load none (.t 31), [0, 1, 2, 8], (.new [])⟩,
   ⟨(some 33), (some (25, true)), .bin .gtr (.t 30) (.t 32), [0, 1, 2, 3, 4, 5, 6, 7, 8, 9], (.new [])⟩,
   ⟨(some 34), none, .pick (.t 25) (.t 33) (kB false), [0, 1, 2, 3, 4, 5, 6, 7, 8, 9, 10], (.lone [])⟩]))
 (.cond (.t 34)
 (.seq (.reg [⟨(some 35), none, .mv (.t 5), [], (.new [])⟩,
   ⟨(some 36), none, .load (some 4) (.t 3), [], (.new [])⟩,
   ⟨(some 37), none, .bslice 4 [(.t 36)], [], (.new [])⟩,
   ⟨(some 38), none, .app 4 56 (.t 35) (.t 37), [], (.new [])⟩,
   ⟨(some 5), none, .mv (.t 38), [], (.new [])⟩])
 (.reg [⟨(some 6), none, .mv (kB true), [], (.new [])⟩]))
 .skip)))
 (.seq (.regd [⟨(some 39), none, .mv (.t 0), [], (.new [])⟩,
   ⟨(some 40), none, .mv (.t 7), [], (.new [])⟩,
   ⟨(some 41), none, .indexA 4 (.t 39) (.t 40), [0, 1], (.new [])⟩,
   ⟨(some 42), none, .fieldA 0 (.t 41), [0, 1, 2], (.new [])⟩,
   ⟨(some 43), none, .load none (.t 42), [0, 1, 2, 3], (.new [])⟩,
   ⟨(some 44), none, .fieldA 0 (.t 3), [], (.new [])⟩,
   ⟨(some 45), none, .load none (.t 44), [5], (.new [])⟩,
   ⟨(some 46), none, .bin .neq (.t 43) (.t 45), [0, 1, 2, 3, 4, 5, 6], (.new [])⟩])
 (.cond (.t 46)
 (.reg [⟨(some 47), none, .mv (.t 5), [], (.new [])⟩,
   ⟨(some 48), none, .mv (.t 0), [], (.new [])⟩,
   ⟨(some 49), none, .mv (.t 7), [], (.new [])⟩,
   ⟨(some 50), none, .indexA 4 (.t 48) (.t 49), [], (.new [])⟩,
   ⟨(some 51), none, .load (some 4) (.t 50), [], (.new [])⟩,
   ⟨(some 52), none, .bslice 4 [(.t 51)], [], (.new [])⟩,
   ⟨(some 53), none, .app 4 56 (.t 47) (.t 52), [], (.new [])⟩,
   ⟨(some 5), none, .mv (.t 53), [], (.new [])⟩])
 .skip)))))
 (.reg [⟨(some 21), none, .mv (.t 7), [], (.new [])⟩,
   ⟨(some 22), none, .bin .add (.t 21) (kI 1), [], (.new [])⟩,
   ⟨(some 7), none, .mv (.t 22), [], (.new [])⟩])))))))
 (.seq (.seq (.reg [⟨(some 54), none, .mv (.t 6), [], (.new [])⟩,
   ⟨(some 55), none, .not (.t 54), [], (.new [])⟩])
 (.cond (.t 55)
 (.reg [⟨(some 56), none, .mv (.t 5), [], (.new [])⟩,
   ⟨(some 57), none, .load (some 4) (.t 3), [], (.new [])⟩,
   ⟨(some 58), none, .bslice 4 [(.t 57)], [], (.new [])⟩,
   ⟨(some 59), none, .app 4 56 (.t 56) (.t 58), [], (.new [])⟩,
   ⟨(some 5), none, .mv (.t 59), [], (.new [])⟩])
 .skip))
 (.seq (.reg [⟨(some 60), none, .mv (.t 5), [], (.new [])⟩,
   ⟨(some 4), none, .mv (.t 60), [], (.new [])⟩])
 .ret))))))⟩
theorem a27_ok : afn Try.prog 27 = some a27.er := by kernel_rfl
theorem F27_ok {x0 : (List Expectation)} {x1 : Expectation} {r : (List Expectation)} (h : F27 x0 x1 = some r) : CallD Try.prog 27 [.c (.d (.sl (x0.map eExpectation))), .agg [.d (.v (.string x1.Key)), .d (.v (.int .i64 x1.Creates)), .d (.sl (x1.Deletes.map eS)), .d (.v (.int .i64 x1.Since))]] [] (tupV [.c (.own 0 0 0 (r.length) none)]) [some (.arr 0 4 (r.map eExpectation))] := by
  refine callS a27_ok (by simp [a27]) ?_
  rw [F27] at h
  simp only [a27, VW.down, Nat.reduceEqDiff, reduceCtorEq, Nat.reduceAdd, Nat.reduceLeDiff, Nat.reduceLT, Nat.reduceBEq, Nat.reduceSub, EE.down]
  obtain ⟨o1, ho, h⟩ := Option.bind_eq_some_iff.1 h
  refine cutS (fun s => s = ⟨[(0, .one (.c (.d (.sl (x0.map eExpectation))))), (3, .one (.c (.pt 0 0))), (5, .one (.c (.d (.v (.slice none 0 0))))), (6, .one (.c (.d (.v (.bool o1)))))], [some (.box [.d (.v (.string x1.Key)), .d (.v (.int .i64 x1.Creates)), .d (.sl (x1.Deletes.map eS)), .d (.v (.int .i64 x1.Since))])]⟩) ?_ ?_
  · have h := ho
    clear ho
    simp only [VW.down, Nat.reduceEqDiff, reduceCtorEq, Nat.reduceAdd, Nat.reduceLeDiff, Nat.reduceLT, Nat.reduceBEq, Nat.reduceSub, EE.down]
    refine guardS (fun g2 => ?_) (fun g2 => ?_)
    · have h := (if_pos g2).symm.trans h
      simp only [VW.down, Nat.reduceEqDiff, reduceCtorEq, Nat.reduceAdd, Nat.reduceLeDiff, Nat.reduceLT, Nat.reduceBEq, Nat.reduceSub, EE.down]
      obtain rfl := Option.some.inj h
      exact eM [some 0] rfl
    · have h := (if_neg g2).symm.trans h
      simp only [VW.down, Nat.reduceEqDiff, reduceCtorEq, Nat.reduceAdd, Nat.reduceLeDiff, Nat.reduceLT, Nat.reduceBEq, Nat.reduceSub, EE.down]
      obtain rfl := Option.some.inj h
      exact eM [some 0] rfl
  · rintro _ rfl
    clear ho
    simp only [VW.down, Nat.reduceEqDiff, reduceCtorEq, Nat.reduceAdd, Nat.reduceLeDiff, Nat.reduceLT, Nat.reduceBEq, Nat.reduceSub, EE.down]
    obtain ⟨o3, ho, h⟩ := Option.bind_eq_some_iff.1 h
    refine cutS (fun s => s = ⟨[(3, .one (.c (.pt 0 0))), (5, .one (.c (.own 1 0 0 (o3.1.length) none))), (6, .one (.c (.d (.v (.bool o3.2)))))], [some (.box [.d (.v (.string x1.Key)), .d (.v (.int .i64 x1.Creates)), .d (.sl (x1.Deletes.map eS)), .d (.v (.int .i64 x1.Since))]), some (.arr 0 4 (o3.1.map eExpectation))]⟩) ?_ ?_
    · have h := ho
      clear ho
      obtain ⟨_, hk, h⟩ := Option.bind_eq_some_iff.1 h
      have hk := ck_some hk
      simp only [VW.down, Nat.reduceEqDiff, reduceCtorEq, Nat.reduceAdd, Nat.reduceLeDiff, Nat.reduceLT, Nat.reduceBEq, Nat.reduceSub, EE.down]
      refine bL (fun j s => ∃ (o3_2 : Nat) (o3_0 : List Expectation) (o3_1 : Bool), (o3_2 ≤ x0.length ∧ j = x0.length - o3_2) ∧ s = ⟨[(0, .one (.c (.d (.sl (x0.map eExpectation))))), (3, .one (.c (.pt 0 0))), (5, .one (.c (.own 1 0 0 (o3_0.length) none))), (6, .one (.c (.d (.v (.bool o3_1))))), (7, .one (.c (.d (.v (.int .i64 ((o3_2 : Int)))))))], [some (.box [.d (.v (.string x1.Key)), .d (.v (.int .i64 x1.Creates)), .d (.sl (x1.Deletes.map eS)), .d (.v (.int .i64 x1.Since))]), some (.arr 0 4 (o3_0.map eExpectation))]⟩ ∧ F27_l3 x1 (x0.drop o3_2) o3_2 o3_0 o3_1 = some o3) (x0.length - 0) [some 0, none] ⟨0, [], o1, ⟨hk.1, rfl⟩, rfl, h⟩ ?_
      rintro _ _ ⟨o3_2, o3_0, o3_1, ⟨hi, rfl⟩, rfl, h⟩
      simp only [VW.down, Nat.reduceEqDiff, reduceCtorEq, Nat.reduceAdd, Nat.reduceLeDiff, Nat.reduceLT, Nat.reduceBEq, Nat.reduceSub, EE.down]
      refine condS (fun c4 => ?_) (fun c4 => ?_)
      · obtain ⟨xo3, hxo3, hd⟩ := countY (show (o3_2 : Int) < (x0.length : Int) from c4)
        rw [hd, F27_l3] at h
        simp only [VW.down, Nat.reduceEqDiff, reduceCtorEq, Nat.reduceAdd, Nat.reduceLeDiff, Nat.reduceLT, Nat.reduceBEq, Nat.reduceSub, EE.down]
        obtain ⟨o5, ho, h⟩ := Option.bind_eq_some_iff.1 h
        refine cutS (fun s => s = ⟨[(0, .one (.c (.d (.sl (x0.map eExpectation))))), (3, .one (.c (.pt 0 0))), (5, .one (.c (.own 1 0 0 (o5.1.length) none))), (6, .one (.c (.d (.v (.bool o5.2))))), (7, .one (.c (.d (.v (.int .i64 ((o3_2 : Int)))))))], [some (.box [.d (.v (.string x1.Key)), .d (.v (.int .i64 x1.Creates)), .d (.sl (x1.Deletes.map eS)), .d (.v (.int .i64 x1.Since))]), some (.arr 0 4 (o5.1.map eExpectation))]⟩) ?_ ?_
        · have h := ho
          clear ho
          simp only [VW.down, Nat.reduceEqDiff, reduceCtorEq, Nat.reduceAdd, Nat.reduceLeDiff, Nat.reduceLT, Nat.reduceBEq, Nat.reduceSub, EE.down]
          obtain ⟨o6, ho, h⟩ := Option.bind_eq_some_iff.1 h
          refine cutS (fun s => s = ⟨[(0, .one (.c (.d (.sl (x0.map eExpectation))))), (3, .one (.c (.pt 0 0))), (5, .one (.c (.own 1 0 0 (o6.1.length) none))), (6, .one (.c (.d (.v (.bool o6.2))))), (7, .one (.c (.d (.v (.int .i64 ((o3_2 : Int)))))))], [some (.box [.d (.v (.string x1.Key)), .d (.v (.int .i64 x1.Creates)), .d (.sl (x1.Deletes.map eS)), .d (.v (.int .i64 x1.Since))]), some (.arr 0 4 (o6.1.map eExpectation))]⟩) ?_ ?_
          · have h := ho
            clear ho
            simp only [VW.down, Nat.reduceEqDiff, reduceCtorEq, Nat.reduceAdd, Nat.reduceLeDiff, Nat.reduceLT, Nat.reduceBEq, Nat.reduceSub, EE.down]
            obtain ⟨o7, ho, h⟩ := Option.bind_eq_some_iff.1 h
            refine cutS (fun s => s = ⟨[(0, .one (.c (.d (.sl (x0.map eExpectation))))), (3, .one (.c (.pt 0 0))), (5, .one (.c (.own 1 0 0 (o3_0.length) none))), (6, .one (.c (.d (.v (.bool o3_1))))), (7, .one (.c (.d (.v (.int .i64 ((o3_2 : Int))))))), (34, .one (.c (.d (.v (.bool o7)))))], [some (.box [.d (.v (.string x1.Key)), .d (.v (.int .i64 x1.Creates)), .d (.sl (x1.Deletes.map eS)), .d (.v (.int .i64 x1.Since))]), some (.arr 0 4 (o3_0.map eExpectation))]⟩) ?_ ?_
            · have h := ho
              clear ho
              simp only [VW.down, Nat.reduceEqDiff, reduceCtorEq, Nat.reduceAdd, Nat.reduceLeDiff, Nat.reduceLT, Nat.reduceBEq, Nat.reduceSub, EE.down]
              refine guardDB (fun g8 => ?_) (fun g8 => ?_)
              · have h := (if_pos g8).symm.trans h
                simp only [VW.down, Nat.reduceEqDiff, reduceCtorEq, Nat.reduceAdd, Nat.reduceLeDiff, Nat.reduceLT, Nat.reduceBEq, Nat.reduceSub, EE.down]
                refine t_idxF (enc := eExpectation) (xs := x0) rfl rfl hxo3 rfl ?_
                simp only [VW.down, Nat.reduceEqDiff, reduceCtorEq, Nat.reduceAdd, Nat.reduceLeDiff, Nat.reduceLT, Nat.reduceBEq, Nat.reduceSub, EE.down]
                obtain rfl := Option.some.inj h
                exact eM [some 0, some 1] rfl
              · have h := (if_neg g8).symm.trans h
                simp only [VW.down, Nat.reduceEqDiff, reduceCtorEq, Nat.reduceAdd, Nat.reduceLeDiff, Nat.reduceLT, Nat.reduceBEq, Nat.reduceSub, EE.down]
                obtain rfl := Option.some.inj h
                exact eM [some 0, some 1] rfl
            · rintro _ rfl
              clear ho
              simp only [VW.down, Nat.reduceEqDiff, reduceCtorEq, Nat.reduceAdd, Nat.reduceLeDiff, Nat.reduceLT, Nat.reduceBEq, Nat.reduceSub, EE.down]
              refine condB (fun c9 => ?_) (fun c9 => ?_)
              · have h := (if_pos c9).symm.trans h
                simp only [VW.down, Nat.reduceEqDiff, reduceCtorEq, Nat.reduceAdd, Nat.reduceLeDiff, Nat.reduceLT, Nat.reduceBEq, Nat.reduceSub, EE.down]
                refine t_bslice (enc := eExpectation) (ys := [x1]) rfl rfl (by simp [A1.cells]) (by first | rfl | (simp only [List.drop_zero, take_mapL]; rfl)) ?_
                simp only [VW.down, Nat.reduceEqDiff, reduceCtorEq, Nat.reduceAdd, Nat.reduceLeDiff, Nat.reduceLT, Nat.reduceBEq, Nat.reduceSub, EE.down]
                obtain ⟨a10, ha10, h⟩ := Option.bind_eq_some_iff.1 h
                refine t_app (enc := eExpectation) (xs := o3_0) rfl rfl (by first | rfl | simp only [List.length_set] | exact (clrL_len (slI_len (by assumption))).symm) rfl (rows_full (enc := eExpectation) (by first | rfl | simp only [List.length_set] | exact (clrL_len (slI_len (by assumption))).symm) rfl) ha10 ?_
                simp only [VW.down, Nat.reduceEqDiff, reduceCtorEq, Nat.reduceAdd, Nat.reduceLeDiff, Nat.reduceLT, Nat.reduceBEq, Nat.reduceSub, EE.down]
                obtain rfl := Option.some.inj h
                exact eM [some 0, some 1] rfl
              · have h := (if_neg c9).symm.trans h
                simp only [VW.down, Nat.reduceEqDiff, reduceCtorEq, Nat.reduceAdd, Nat.reduceLeDiff, Nat.reduceLT, Nat.reduceBEq, Nat.reduceSub, EE.down]
                obtain rfl := Option.some.inj h
                exact eM [some 0, some 1] rfl
          · rintro _ rfl
            clear ho
            simp only [VW.down, Nat.reduceEqDiff, reduceCtorEq, Nat.reduceAdd, Nat.reduceLeDiff, Nat.reduceLT, Nat.reduceBEq, Nat.reduceSub, EE.down]
            refine t_idxF (enc := eExpectation) (xs := x0) rfl rfl hxo3 rfl ?_
            simp only [VW.down, Nat.reduceEqDiff, reduceCtorEq, Nat.reduceAdd, Nat.reduceLeDiff, Nat.reduceLT, Nat.reduceBEq, Nat.reduceSub, EE.down]
            refine condS (fun c11 => ?_) (fun c11 => ?_)
            · have h := (if_pos c11).symm.trans h
              simp only [VW.down, Nat.reduceEqDiff, reduceCtorEq, Nat.reduceAdd, Nat.reduceLeDiff, Nat.reduceLT, Nat.reduceBEq, Nat.reduceSub, EE.down]
              refine t_idxF (enc := eExpectation) (xs := x0) rfl rfl hxo3 rfl ?_
              simp only [VW.down, Nat.reduceEqDiff, reduceCtorEq, Nat.reduceAdd, Nat.reduceLeDiff, Nat.reduceLT, Nat.reduceBEq, Nat.reduceSub, EE.down]
              refine t_bslice (enc := eExpectation) (ys := [xo3]) rfl rfl (by simp [A1.cells]) (by first | rfl | (simp only [List.drop_zero, take_mapL]; rfl)) ?_
              simp only [VW.down, Nat.reduceEqDiff, reduceCtorEq, Nat.reduceAdd, Nat.reduceLeDiff, Nat.reduceLT, Nat.reduceBEq, Nat.reduceSub, EE.down]
              obtain ⟨a12, ha12, h⟩ := Option.bind_eq_some_iff.1 h
              refine t_app (enc := eExpectation) (xs := o6.1) rfl rfl (by first | rfl | simp only [List.length_set] | exact (clrL_len (slI_len (by assumption))).symm) rfl (rows_full (enc := eExpectation) (by first | rfl | simp only [List.length_set] | exact (clrL_len (slI_len (by assumption))).symm) rfl) ha12 ?_
              simp only [VW.down, Nat.reduceEqDiff, reduceCtorEq, Nat.reduceAdd, Nat.reduceLeDiff, Nat.reduceLT, Nat.reduceBEq, Nat.reduceSub, EE.down]
              obtain rfl := Option.some.inj h
              exact eM [some 0, some 1] rfl
            · have h := (if_neg c11).symm.trans h
              simp only [VW.down, Nat.reduceEqDiff, reduceCtorEq, Nat.reduceAdd, Nat.reduceLeDiff, Nat.reduceLT, Nat.reduceBEq, Nat.reduceSub, EE.down]
              obtain rfl := Option.some.inj h
              exact eM [some 0, some 1] rfl
        · rintro _ rfl
          clear ho
          simp only [VW.down, Nat.reduceEqDiff, reduceCtorEq, Nat.reduceAdd, Nat.reduceLeDiff, Nat.reduceLT, Nat.reduceBEq, Nat.reduceSub, EE.down]
          rw [wrapN (by omega)]
          exact eL' (x0.length - (o3_2 + 1)) [some 0, some 1] ⟨o3_2 + 1, o5.1, o5.2, ⟨by omega, rfl⟩, rfl, h⟩ (by omega)
      · rw [countN (show ¬ ((o3_2 : Int) < (x0.length : Int)) from c4), F27_l3] at h
        simp only [VW.down, Nat.reduceEqDiff, reduceCtorEq, Nat.reduceAdd, Nat.reduceLeDiff, Nat.reduceLT, Nat.reduceBEq, Nat.reduceSub, EE.down]
        obtain rfl := Option.some.inj h
        exact eM [some 0, some 1] rfl
    · rintro _ rfl
      clear ho
      simp only [VW.down, Nat.reduceEqDiff, reduceCtorEq, Nat.reduceAdd, Nat.reduceLeDiff, Nat.reduceLT, Nat.reduceBEq, Nat.reduceSub, EE.down]
      refine condB (fun c14 => ?_) (fun c14 => ?_)
      · have h := (if_pos c14).symm.trans h
        simp only [VW.down, Nat.reduceEqDiff, reduceCtorEq, Nat.reduceAdd, Nat.reduceLeDiff, Nat.reduceLT, Nat.reduceBEq, Nat.reduceSub, EE.down]
        refine t_bslice (enc := eExpectation) (ys := [x1]) rfl rfl (by simp [A1.cells]) (by first | rfl | (simp only [List.drop_zero, take_mapL]; rfl)) ?_
        simp only [VW.down, Nat.reduceEqDiff, reduceCtorEq, Nat.reduceAdd, Nat.reduceLeDiff, Nat.reduceLT, Nat.reduceBEq, Nat.reduceSub, EE.down]
        obtain ⟨a15, ha15, h⟩ := Option.bind_eq_some_iff.1 h
        refine t_app (enc := eExpectation) (xs := o3.1) rfl rfl (by first | rfl | simp only [List.length_set] | exact (clrL_len (slI_len (by assumption))).symm) rfl (rows_full (enc := eExpectation) (by first | rfl | simp only [List.length_set] | exact (clrL_len (slI_len (by assumption))).symm) rfl) ha15 ?_
        simp only [VW.down, Nat.reduceEqDiff, reduceCtorEq, Nat.reduceAdd, Nat.reduceLeDiff, Nat.reduceLT, Nat.reduceBEq, Nat.reduceSub, EE.down]
        obtain rfl := Option.some.inj h
        exact eF [some 1]
      · have h := (if_neg c14).symm.trans h
        simp only [VW.down, Nat.reduceEqDiff, reduceCtorEq, Nat.reduceAdd, Nat.reduceLeDiff, Nat.reduceLT, Nat.reduceBEq, Nat.reduceSub, EE.down]
        obtain rfl := Option.some.inj h
        exact eF [some 1]

/- orchestrator/orchestratorref32.Want -/
def F11 (x0 : (List Expectation)) (x1 : ByteArray) (x2 : Int) (x3 : (List ByteArray)) (x4 : Int) : Option ((List Expectation)) := (F28 x2 1000000000000000).bind fun t1 => (F18 x3).bind fun t2 => (F28 x4 1000000000000).bind fun t3 => (F27 x0 ((⟨x1, (if (if 0 < x2 then x2 else 0) < (1000000000000000 : Int) then (if 0 < x2 then x2 else 0) else (1000000000000000 : Int)), t2, (if (if 0 < x4 then x4 else 0) < (1000000000000 : Int) then (if 0 < x4 then x4 else 0) else (1000000000000 : Int))⟩ : Expectation))).bind fun t4 => some t4
def a11 : AFn := ⟨21, [(.tmp 10)],
 (.seq (.reg [⟨(some 10), none, .mv kN, [], (.new [])⟩])
 (.seq (.reg [⟨(some 11), none, .mv (.t 0), [], (.new [])⟩,
   ⟨(some 12), none, .mv (.t 1), [], (.new [])⟩,
   ⟨(some 13), none, .mv (.t 2), [], (.new [])⟩,
   ⟨(some 14), none, .call 28 [(.t 13), (kI 1000000000000000)], [], (.new [])⟩,
   ⟨(some 15), none, .mv (.t 3), [], (.new [])⟩,
   ⟨(some 16), none, .call 18 [(.t 15)], [], (.new [])⟩,
   ⟨(some 17), none, .mv (.t 4), [], (.new [])⟩,
   ⟨(some 18), none, .call 28 [(.t 17), (kI 1000000000000)], [], (.new [])⟩,
   ⟨(some 19), none, .build [.d (.v (.string ⟨#[]⟩)), .d (.v (.int .i64 0)), .d (.v (.slice none 0 0)), .d (.v (.int .i64 0))] [(0, 1, (.t 12)), (1, 1, (.t 14)), (2, 1, (.t 16)), (3, 1, (.t 18))], [], (.new [])⟩,
   ⟨(some 20), none, .call 27 [(.t 11), (.t 19)], [], (.new [])⟩,
   ⟨(some 10), none, .mv (.t 20), [], (.new [])⟩])
 .ret))⟩
theorem a11_ok : afn Try.prog 11 = some a11.er := by kernel_rfl
theorem F11_ok {x0 : (List Expectation)} {x1 : ByteArray} {x2 : Int} {x3 : (List ByteArray)} {x4 : Int} {r : (List Expectation)} (h : F11 x0 x1 x2 x3 x4 = some r) : CallD Try.prog 11 [.c (.d (.sl (x0.map eExpectation))), .c (.d (.v (.string x1))), .c (.d (.v (.int .i64 x2))), .c (.d (.sl (x3.map eS))), .c (.d (.v (.int .i64 x4)))] [] (tupV [.c (.own 0 0 0 (r.length) none)]) [some (.arr 0 4 (r.map eExpectation))] := by
  refine callS a11_ok (by simp [a11]) ?_
  rw [F11] at h
  simp only [a11, VW.down, Nat.reduceEqDiff, reduceCtorEq, Nat.reduceAdd, Nat.reduceLeDiff, Nat.reduceLT, Nat.reduceBEq, Nat.reduceSub, EE.down]
  obtain ⟨t1, ht1, h⟩ := Option.bind_eq_some_iff.1 h
  refine callX_n [] (F28_ok ht1) ?_ ?_ ?_ ?_ ?_ ?_
  · first | rfl | simp [nrmA, nrmC, nrm, A1.ren, C.ren, rn, List.length_set]
  · simp [liveAll, A1.live, C.live]
  · rfl
  · decide
  · exact trivial
  simp only [VW.down, Nat.reduceEqDiff, reduceCtorEq, Nat.reduceAdd, Nat.reduceLeDiff, Nat.reduceLT, Nat.reduceBEq, Nat.reduceSub, EE.down]
  obtain ⟨t2, ht2, h⟩ := Option.bind_eq_some_iff.1 h
  refine callX_n [] (F18_ok ht2) ?_ ?_ ?_ ?_ ?_ ?_
  · first | rfl | simp [nrmA, nrmC, nrm, A1.ren, C.ren, rn, List.length_set]
  · simp [liveAll, A1.live, C.live]
  · rfl
  · decide
  · exact trivial
  simp only [VW.down, Nat.reduceEqDiff, reduceCtorEq, Nat.reduceAdd, Nat.reduceLeDiff, Nat.reduceLT, Nat.reduceBEq, Nat.reduceSub, EE.down]
  obtain ⟨t3, ht3, h⟩ := Option.bind_eq_some_iff.1 h
  refine callX_n [] (F28_ok ht3) ?_ ?_ ?_ ?_ ?_ ?_
  · first | rfl | simp [nrmA, nrmC, nrm, A1.ren, C.ren, rn, List.length_set]
  · simp [liveAll, A1.live, C.live]
  · rfl
  · decide
  · exact trivial
  simp only [VW.down, Nat.reduceEqDiff, reduceCtorEq, Nat.reduceAdd, Nat.reduceLeDiff, Nat.reduceLT, Nat.reduceBEq, Nat.reduceSub, EE.down]
  obtain ⟨t4, ht4, h⟩ := Option.bind_eq_some_iff.1 h
  refine callX_gen (as1 := [.c (.d (.sl (x0.map eExpectation))), .agg [.d (.v (.string x1)), .d (.v (.int .i64 ((if (if 0 < x2 then x2 else 0) < (1000000000000000 : Int) then (if 0 < x2 then x2 else 0) else (1000000000000000 : Int))))), .d (.sl (t2.map eS)), .d (.v (.int .i64 ((if (if 0 < x4 then x4 else 0) < (1000000000000 : Int) then (if 0 < x4 then x4 else 0) else (1000000000000 : Int)))))]]) [(0, .arr 1 1 [])] [none] [] (F27_ok ht4) ⟨?_, rfl, ?_⟩ ?_ ?_ ?_ ?_ ?_ ?_ ?_ ?_
  · simp only [ZZ.down, Nat.reduceEqDiff, reduceCtorEq, Nat.reduceAdd, Nat.reduceLeDiff, Nat.reduceLT, Nat.reduceBNe, EE.down]
  · simp only [ZZ.down, Nat.reduceEqDiff, reduceCtorEq, Nat.reduceAdd, Nat.reduceLeDiff, Nat.reduceLT, Nat.reduceBNe, EE.down]
  · simp only [ZZ.down, Nat.reduceEqDiff, reduceCtorEq, Nat.reduceAdd, Nat.reduceLeDiff, Nat.reduceLT, Nat.reduceBNe, EE.down]
  · rfl
  · rfl
  · simp [liveAll, A1.live, C.live]
  · rfl
  · decide
  · exact trivial
  simp only [VW.down, Nat.reduceEqDiff, reduceCtorEq, Nat.reduceAdd, Nat.reduceLeDiff, Nat.reduceLT, Nat.reduceBEq, Nat.reduceSub, EE.down]
  obtain rfl := Option.some.inj h
  exact eF [some 1]

/- orchestrator/orchestratorlaw32.ExpectWants -/
def F3 (x0 : (List Expectation)) (x1 : ByteArray) (x2 : Int) (x3 : (List ByteArray)) (x4 : Int) : Option (Bool) := (((F7 x0).bind fun t2 => (if (nb t2) = true then some true else some (decide (30 < (x3.length : Int))))).bind fun o1 => (if o1 = true then (F8).bind fun t5 => some t5 else (((F8).bind fun t7 => (if t7 = true then (F10 x0 x1 x2 x3 x4).bind fun t9 => (F11 x0 x1 x2 x3 x4).bind fun t10 => (F9 t9 t10).bind fun t11 => some t11 else some false)).bind fun o6 => some o6)))
def a3 : AFn := ⟨36, [(.tmp 10)],
 (.seq (.reg [⟨(some 10), none, .mv (kB false), [], (.new [])⟩])
 (.seq (.seq (.sem (.reg [⟨(some 11), none, .mv (.t 0), [], (.new [])⟩,
   ⟨(some 12), none, .call 7 [(.t 11)], [], (.new [])⟩,
   ⟨(some 13), none, .not (.t 12), [], (.new [])⟩,
   ⟨(some 14), none, .mv (.t 13), [], (.new [])⟩,
   ⟨(some 15), (some (14, false)), .mv (.t 3), [], (.new [])⟩,
   ⟨(some 16), (some (14, false)), .len (.t 15), [], (.new [])⟩,
   ⟨(some 17), (some (14, false)), .bin .gtr (.t 16) (kI 30), [], (.new [])⟩,
   ⟨(some 18), none, .pick (.t 14) (kB true) (.t 17), [], (.new [])⟩]))
 (.cond (.t 18)
 (.seq (.reg [⟨(some 19), none, .call 8 [], [], (.new [])⟩,
   ⟨(some 10), none, .mv (.t 19), [], (.new [])⟩])
 .ret)
 .skip))
 (.seq (.sem (.reg [⟨(some 20), none, .call 8 [], [], (.new [])⟩,
   ⟨(some 21), none, .mv (.t 20), [], (.new [])⟩,
   ⟨(some 22), (some (21, true)), .mv (.t 0), [], (.new [])⟩,
   ⟨(some 23), (some (21, true)), .mv (.t 1), [], (.new [])⟩,
   ⟨(some 24), (some (21, true)), .mv (.t 2), [], (.new [])⟩,
   ⟨(some 25), (some (21, true)), .mv (.t 3), [], (.new [])⟩,
   ⟨(some 26), (some (21, true)), .mv (.t 4), [], (.new [])⟩,
   ⟨(some 27), (some (21, true)), .call 10 [(.t 22), (.t 23), (.t 24), (.t 25), (.t 26)], [], (.new [])⟩,
   ⟨(some 28), (some (21, true)), .mv (.t 0), [], (.new [])⟩,
   ⟨(some 29), (some (21, true)), .mv (.t 1), [], (.new [])⟩,
   ⟨(some 30), (some (21, true)), .mv (.t 2), [], (.new [])⟩,
   ⟨(some 31), (some (21, true)), .mv (.t 3), [], (.new [])⟩,
   ⟨(some 32), (some (21, true)), .mv (.t 4), [], (.new [])⟩,
   ⟨(some 33), (some (21, true)), .call 11 [(.t 28), (.t 29), (.t 30), (.t 31), (.t 32)], [], (.new [])⟩,
   ⟨(some 34), (some (21, true)), .call 9 [(.t 27), (.t 33)], [], (.new [])⟩,
   ⟨(some 35), none, .pick (.t 21) (.t 34) (kB false), [], (.new [])⟩,
   ⟨(some 10), none, .mv (.t 35), [], (.new [])⟩]))
 .ret)))⟩
theorem a3_ok : afn Try.prog 3 = some a3.er := by kernel_rfl
theorem F3_ok {x0 : (List Expectation)} {x1 : ByteArray} {x2 : Int} {x3 : (List ByteArray)} {x4 : Int} {r : Bool} (h : F3 x0 x1 x2 x3 x4 = some r) : CallD Try.prog 3 [.c (.d (.sl (x0.map eExpectation))), .c (.d (.v (.string x1))), .c (.d (.v (.int .i64 x2))), .c (.d (.sl (x3.map eS))), .c (.d (.v (.int .i64 x4)))] [] (tupV [.c (.d (.v (.bool r)))]) [] := by
  refine callS a3_ok (by simp [a3]) ?_
  rw [F3] at h
  simp only [a3, VW.down, Nat.reduceEqDiff, reduceCtorEq, Nat.reduceAdd, Nat.reduceLeDiff, Nat.reduceLT, Nat.reduceBEq, Nat.reduceSub, EE.down]
  obtain ⟨o1, ho, h⟩ := Option.bind_eq_some_iff.1 h
  refine cutS (fun s => s = ⟨[(0, .one (.c (.d (.sl (x0.map eExpectation))))), (1, .one (.c (.d (.v (.string x1))))), (2, .one (.c (.d (.v (.int .i64 x2))))), (3, .one (.c (.d (.sl (x3.map eS))))), (4, .one (.c (.d (.v (.int .i64 x4))))), (18, .one (.c (.d (.v (.bool o1)))))], []⟩) ?_ ?_
  · have h := ho
    clear ho
    simp only [VW.down, Nat.reduceEqDiff, reduceCtorEq, Nat.reduceAdd, Nat.reduceLeDiff, Nat.reduceLT, Nat.reduceBEq, Nat.reduceSub, EE.down]
    obtain ⟨t2, ht2, h⟩ := Option.bind_eq_some_iff.1 h
    refine callX_n [] (F7_ok ht2) ?_ ?_ ?_ ?_ ?_ ?_
    · first | rfl | simp [nrmA, nrmC, nrm, A1.ren, C.ren, rn, List.length_set]
    · simp [liveAll, A1.live, C.live]
    · rfl
    · decide
    · exact trivial
    simp only [VW.down, Nat.reduceEqDiff, reduceCtorEq, Nat.reduceAdd, Nat.reduceLeDiff, Nat.reduceLT, Nat.reduceBEq, Nat.reduceSub, EE.down]
    refine guardSB (fun g3 => ?_) (fun g3 => ?_)
    · have h := (if_pos g3).symm.trans h
      simp only [VW.down, Nat.reduceEqDiff, reduceCtorEq, Nat.reduceAdd, Nat.reduceLeDiff, Nat.reduceLT, Nat.reduceBEq, Nat.reduceSub, EE.down]
      obtain rfl := Option.some.inj h
      exact eM [] rfl
    · have h := (if_neg g3).symm.trans h
      simp only [VW.down, Nat.reduceEqDiff, reduceCtorEq, Nat.reduceAdd, Nat.reduceLeDiff, Nat.reduceLT, Nat.reduceBEq, Nat.reduceSub, EE.down]
      obtain rfl := Option.some.inj h
      exact eM [] rfl
  · rintro _ rfl
    clear ho
    simp only [VW.down, Nat.reduceEqDiff, reduceCtorEq, Nat.reduceAdd, Nat.reduceLeDiff, Nat.reduceLT, Nat.reduceBEq, Nat.reduceSub, EE.down]
    refine condB (fun c4 => ?_) (fun c4 => ?_)
    · have h := (if_pos c4).symm.trans h
      simp only [VW.down, Nat.reduceEqDiff, reduceCtorEq, Nat.reduceAdd, Nat.reduceLeDiff, Nat.reduceLT, Nat.reduceBEq, Nat.reduceSub, EE.down]
      obtain ⟨t5, ht5, h⟩ := Option.bind_eq_some_iff.1 h
      refine callX_n [] (F8_ok ht5) ?_ ?_ ?_ ?_ ?_ ?_
      · first | rfl | simp [nrmA, nrmC, nrm, A1.ren, C.ren, rn, List.length_set]
      · simp [liveAll, A1.live, C.live]
      · rfl
      · decide
      · exact trivial
      simp only [VW.down, Nat.reduceEqDiff, reduceCtorEq, Nat.reduceAdd, Nat.reduceLeDiff, Nat.reduceLT, Nat.reduceBEq, Nat.reduceSub, EE.down]
      obtain rfl := Option.some.inj h
      exact eF []
    · have h := (if_neg c4).symm.trans h
      simp only [VW.down, Nat.reduceEqDiff, reduceCtorEq, Nat.reduceAdd, Nat.reduceLeDiff, Nat.reduceLT, Nat.reduceBEq, Nat.reduceSub, EE.down]
      obtain ⟨o6, ho, h⟩ := Option.bind_eq_some_iff.1 h
      refine cutS (fun s => s = ⟨[(10, .one (.c (.d (.v (.bool o6)))))], []⟩) ?_ ?_
      · have h := ho
        clear ho
        simp only [VW.down, Nat.reduceEqDiff, reduceCtorEq, Nat.reduceAdd, Nat.reduceLeDiff, Nat.reduceLT, Nat.reduceBEq, Nat.reduceSub, EE.down]
        obtain ⟨t7, ht7, h⟩ := Option.bind_eq_some_iff.1 h
        refine callX_n [] (F8_ok ht7) ?_ ?_ ?_ ?_ ?_ ?_
        · first | rfl | simp [nrmA, nrmC, nrm, A1.ren, C.ren, rn, List.length_set]
        · simp [liveAll, A1.live, C.live]
        · rfl
        · decide
        · exact trivial
        simp only [VW.down, Nat.reduceEqDiff, reduceCtorEq, Nat.reduceAdd, Nat.reduceLeDiff, Nat.reduceLT, Nat.reduceBEq, Nat.reduceSub, EE.down]
        refine guardSB (fun g8 => ?_) (fun g8 => ?_)
        · have h := (if_pos g8).symm.trans h
          simp only [VW.down, Nat.reduceEqDiff, reduceCtorEq, Nat.reduceAdd, Nat.reduceLeDiff, Nat.reduceLT, Nat.reduceBEq, Nat.reduceSub, EE.down]
          obtain ⟨t9, ht9, h⟩ := Option.bind_eq_some_iff.1 h
          refine callX_n [] (F10_ok ht9) ?_ ?_ ?_ ?_ ?_ ?_
          · first | rfl | simp [nrmA, nrmC, nrm, A1.ren, C.ren, rn, List.length_set]
          · simp [liveAll, A1.live, C.live]
          · rfl
          · decide
          · exact trivial
          simp only [VW.down, Nat.reduceEqDiff, reduceCtorEq, Nat.reduceAdd, Nat.reduceLeDiff, Nat.reduceLT, Nat.reduceBEq, Nat.reduceSub, EE.down]
          obtain ⟨t10, ht10, h⟩ := Option.bind_eq_some_iff.1 h
          refine callX_n [] (F11_ok ht10) ?_ ?_ ?_ ?_ ?_ ?_
          · first | rfl | simp [nrmA, nrmC, nrm, A1.ren, C.ren, rn, List.length_set]
          · simp [liveAll, A1.live, C.live]
          · rfl
          · decide
          · exact trivial
          simp only [VW.down, Nat.reduceEqDiff, reduceCtorEq, Nat.reduceAdd, Nat.reduceLeDiff, Nat.reduceLT, Nat.reduceBEq, Nat.reduceSub, EE.down]
          obtain ⟨t11, ht11, h⟩ := Option.bind_eq_some_iff.1 h
          refine callX_bor (F9_ok ht11) (by simp only [borAs, bors, hp, List.getElem?_cons_zero, List.getElem?_cons_succ, Option.join_some, List.drop_zero, bor_full', true_and, Nat.zero_add, List.length_map, Nat.le_refl, nrm, List.length_cons, List.length_nil, Nat.reduceAdd, Nat.reduceLeDiff, List.take_succ_cons, List.take_zero, List.take_nil, List.map_cons, List.map_nil, List.length_set, EE.down]) rfl ?_
          simp only [VW.down, Nat.reduceEqDiff, reduceCtorEq, Nat.reduceAdd, Nat.reduceLeDiff, Nat.reduceLT, Nat.reduceBEq, Nat.reduceSub, EE.down]
          obtain rfl := Option.some.inj h
          exact eM [] rfl
        · have h := (if_neg g8).symm.trans h
          simp only [VW.down, Nat.reduceEqDiff, reduceCtorEq, Nat.reduceAdd, Nat.reduceLeDiff, Nat.reduceLT, Nat.reduceBEq, Nat.reduceSub, EE.down]
          obtain rfl := Option.some.inj h
          exact eM [] rfl
      · rintro _ rfl
        clear ho
        simp only [VW.down, Nat.reduceEqDiff, reduceCtorEq, Nat.reduceAdd, Nat.reduceLeDiff, Nat.reduceLT, Nat.reduceBEq, Nat.reduceSub, EE.down]
        obtain rfl := Option.some.inj h
        exact eF []

/- orchestrator/orchestratorref32.find -/
def F29_l1 (x1 : ByteArray) : List Expectation → Nat → Option ((Int) ⊕ (Unit))
  | [], o1_0 => some (Sum.inr (()))
  | xo1 :: xs, o1_0 => (if xo1.Key = x1 then (some ((o1_0 : Int))).map Sum.inl else F29_l1 x1 xs (o1_0 + 1))
def F29 (x0 : (List Expectation)) (x1 : ByteArray) : Option (Int) := (((ck (0 ≤ x0.length ∧ x0.length ≤ 4294967290)).bind fun u4 => F29_l1 x1 x0 0).bind fun o1 => match o1 with | Sum.inl f => some f | Sum.inr po1 => some ((-1)))
def a29 : AFn := ⟨20, [(.tmp 4)],
 (.seq (.reg [⟨(some 4), none, .mv (kI 0), [], (.new [])⟩])
 (.seq (.seq (.reg [⟨(some 5), none, .mv (kI 0), [], (.new [])⟩])
 (.sem (.block 0 (.loop (.seq (.seq (.reg [⟨(some 6), none, .mv (.t 5), [], (.new [])⟩,
   ⟨(some 7), none, .mv (.t 0), [], (.new [])⟩,
   ⟨(some 8), none, .len (.t 7), [], (.new [])⟩,
   ⟨(some 9), none, .bin .lss (.t 6) (.t 8), [], (.new [])⟩])
 (.cond (.t 9)
 .skip
 (.exit 0)))
 (.seq (.block 1 (.seq (.reg [⟨(some 12), none, .mv (.t 0), [], (.new [])⟩,
   ⟨(some 13), none, .mv (.t 5), [], (.new [])⟩,
   ⟨(some 14), none, .indexA 4 (.t 12) (.t 13), [], (.new [])⟩,
   ⟨(some 15), none, .fieldA 0 (.t 14), [], (.new [])⟩,
   ⟨(some 16), none, .load none (.t 15), [], (.new [])⟩,
   ⟨(some 17), none, .mv (.t 1), [], (.new [])⟩,
   ⟨(some 18), none, .bin .eql (.t 16) (.t 17), [], (.new [])⟩])
 (.cond (.t 18)
 (.seq (.reg [⟨(some 19), none, .mv (.t 5), [], (.new [])⟩,
   ⟨(some 4), none, .mv (.t 19), [], (.new [])⟩])
 .ret)
 .skip)))
 (.reg [⟨(some 10), none, .mv (.t 5), [], (.new [])⟩,
   ⟨(some 11), none, .bin .add (.t 10) (kI 1), [], (.new [])⟩,
   ⟨(some 5), none, .mv (.t 11), [], (.new [])⟩])))))))
 (.seq (.reg [⟨(some 4), none, .mv (kI (-1)), [], (.new [])⟩])
 .ret)))⟩
theorem a29_ok : afn Try.prog 29 = some a29.er := by kernel_rfl
theorem F29_ok {x0 : (List Expectation)} {x1 : ByteArray} {r : Int} (h : F29 x0 x1 = some r) : CallD Try.prog 29 [.c (.d (.sl (x0.map eExpectation))), .c (.d (.v (.string x1)))] [] (tupV [.c (.d (.v (.int .i64 r)))]) [] := by
  refine callS a29_ok (by simp [a29]) ?_
  rw [F29] at h
  simp only [a29, VW.down, Nat.reduceEqDiff, reduceCtorEq, Nat.reduceAdd, Nat.reduceLeDiff, Nat.reduceLT, Nat.reduceBEq, Nat.reduceSub, EE.down]
  obtain ⟨o1, ho, h⟩ := Option.bind_eq_some_iff.1 h
  refine cutS (fun s => ∃ po1, o1 = Sum.inr po1 ∧ s = ⟨[], []⟩) ?_ ?_
  · have h0o1 := h
    have h := ho
    clear ho
    obtain ⟨_, hk, h⟩ := Option.bind_eq_some_iff.1 h
    have hk := ck_some hk
    simp only [VW.down, Nat.reduceEqDiff, reduceCtorEq, Nat.reduceAdd, Nat.reduceLeDiff, Nat.reduceLT, Nat.reduceBEq, Nat.reduceSub, EE.down]
    refine bL (fun j s => ∃ (o1_0 : Nat), (o1_0 ≤ x0.length ∧ j = x0.length - o1_0) ∧ s = ⟨[(0, .one (.c (.d (.sl (x0.map eExpectation))))), (1, .one (.c (.d (.v (.string x1))))), (5, .one (.c (.d (.v (.int .i64 ((o1_0 : Int)))))))], []⟩ ∧ F29_l1 x1 (x0.drop o1_0) o1_0 = some o1) (x0.length - 0) [] ⟨0, ⟨hk.1, rfl⟩, rfl, h⟩ ?_
    rintro _ _ ⟨o1_0, ⟨hi, rfl⟩, rfl, h⟩
    simp only [VW.down, Nat.reduceEqDiff, reduceCtorEq, Nat.reduceAdd, Nat.reduceLeDiff, Nat.reduceLT, Nat.reduceBEq, Nat.reduceSub, EE.down]
    refine condS (fun c2 => ?_) (fun c2 => ?_)
    · obtain ⟨xo1, hxo1, hd⟩ := countY (show (o1_0 : Int) < (x0.length : Int) from c2)
      rw [hd, F29_l1] at h
      simp only [VW.down, Nat.reduceEqDiff, reduceCtorEq, Nat.reduceAdd, Nat.reduceLeDiff, Nat.reduceLT, Nat.reduceBEq, Nat.reduceSub, EE.down]
      refine t_idxF (enc := eExpectation) (xs := x0) rfl rfl hxo1 rfl ?_
      simp only [VW.down, Nat.reduceEqDiff, reduceCtorEq, Nat.reduceAdd, Nat.reduceLeDiff, Nat.reduceLT, Nat.reduceBEq, Nat.reduceSub, EE.down]
      refine condS (fun c3 => ?_) (fun c3 => ?_)
      · have h := (if_pos c3).symm.trans h
        simp only [VW.down, Nat.reduceEqDiff, reduceCtorEq, Nat.reduceAdd, Nat.reduceLeDiff, Nat.reduceLT, Nat.reduceBEq, Nat.reduceSub, EE.down]
        obtain ⟨fh0o1, hfh0o1, rfl⟩ := Option.map_eq_some_iff.1 h
        have h := hfh0o1.trans h0o1
        obtain rfl := Option.some.inj h
        exact eF []
      · have h := (if_neg c3).symm.trans h
        simp only [VW.down, Nat.reduceEqDiff, reduceCtorEq, Nat.reduceAdd, Nat.reduceLeDiff, Nat.reduceLT, Nat.reduceBEq, Nat.reduceSub, EE.down]
        rw [wrapN (by omega)]
        exact eL' (x0.length - (o1_0 + 1)) [] ⟨o1_0 + 1, ⟨by omega, rfl⟩, rfl, h⟩ (by omega)
    · rw [countN (show ¬ ((o1_0 : Int) < (x0.length : Int)) from c2), F29_l1] at h
      simp only [VW.down, Nat.reduceEqDiff, reduceCtorEq, Nat.reduceAdd, Nat.reduceLeDiff, Nat.reduceLT, Nat.reduceBEq, Nat.reduceSub, EE.down]
      obtain rfl := Option.some.inj h
      exact eM [] ⟨_, rfl, rfl⟩
  · rintro _ ⟨po1, rfl, rfl⟩
    clear ho
    dsimp only at h
    simp only [VW.down, Nat.reduceEqDiff, reduceCtorEq, Nat.reduceAdd, Nat.reduceLeDiff, Nat.reduceLT, Nat.reduceBEq, Nat.reduceSub, EE.down]
    obtain rfl := Option.some.inj h
    exact eF []

/- orchestrator/orchestratorref32.Created -/
def F13 (x0 : (List Expectation)) (x1 : ByteArray) : Option ((List Expectation)) := (F29 x0 x1).bind fun t1 => (if t1 < 0 then some x0 else (rdI x0 t1).bind fun y3 => (F27 x0 ((⟨x1, (if 0 < (IntKind.i64.wrap (y3.Creates - 1)) then (IntKind.i64.wrap (y3.Creates - 1)) else 0), y3.Deletes, y3.Since⟩ : Expectation))).bind fun t4 => some t4)
def a13 : AFn := ⟨33, [(.tmp 4)],
 (.seq (.reg [⟨(some 4), none, .mv kN, [], (.new [])⟩])
 (.seq (.reg [⟨(some 6), none, .mv (.t 0), [], (.new [])⟩,
   ⟨(some 7), none, .mv (.t 1), [], (.new [])⟩,
   ⟨(some 8), none, .call 29 [(.t 6), (.t 7)], [], (.new [])⟩,
   ⟨(some 5), none, .mv (.t 8), [], (.new [])⟩])
 (.seq (.seq (.reg [⟨(some 9), none, .mv (.t 5), [], (.new [])⟩,
   ⟨(some 10), none, .bin .lss (.t 9) (kI 0), [], (.new [])⟩])
 (.cond (.t 10)
 (.seq (.reg [⟨(some 11), none, .mv (.t 0), [], (.new [])⟩,
   ⟨(some 4), none, .mv (.t 11), [], (.new [])⟩])
 .ret)
 .skip))
 (.seq (.regd [⟨(some 12), none, .mv (.t 0), [], (.new [])⟩,
   ⟨(some 13), none, .mv (.t 1), [], (.new [])⟩,
   ⟨(some 14), none, .mv (.t 0), [], (.new [])⟩,
   ⟨(some 15), none, .mv (.t 5), [], (.new [])⟩,
   ⟨(some 16), none, .indexA 4 (.t 14) (.t 15), [2, 3], (.new [])⟩,
   ⟨(some 17), none, .fieldA 1 (.t 16), [2, 3, 4], (.new [])⟩,
   ⟨(some 18), none, .load none (.t 17), [2, 3, 4, 5], (.new [])⟩,
   ⟨(some 19), none, .bin .sub (.t 18) (kI 1), [2, 3, 4, 5, 6], (.new [])⟩,
   ⟨(some 20), none, .max (kI 0) (.t 19), [2, 3, 4, 5, 6, 7], (.new [])⟩,
   ⟨(some 21), none, .mv (.t 0), [], (.new [])⟩,
   ⟨(some 22), none, .mv (.t 5), [], (.new [])⟩,
   ⟨(some 23), none, .indexA 4 (.t 21) (.t 22), [9, 10], (.new [])⟩,
   ⟨(some 24), none, .fieldA 2 (.t 23), [9, 10, 11], (.new [])⟩,
   ⟨(some 25), none, .load none (.t 24), [9, 10, 11, 12], (.new [])⟩,
   ⟨(some 26), none, .mv (.t 0), [], (.new [])⟩,
   ⟨(some 27), none, .mv (.t 5), [], (.new [])⟩,
   ⟨(some 28), none, .indexA 4 (.t 26) (.t 27), [14, 15], (.new [])⟩,
   ⟨(some 29), none, .fieldA 3 (.t 28), [14, 15, 16], (.new [])⟩,
   ⟨(some 30), none, .load none (.t 29), [14, 15, 16, 17], (.new [])⟩,
   ⟨(some 31), none, .build [.d (.v (.string ⟨#[]⟩)), .d (.v (.int .i64 0)), .d (.v (.slice none 0 0)), .d (.v (.int .i64 0))] [(0, 1, (.t 13)), (1, 1, (.t 20)), (2, 1, (.t 25)), (3, 1, (.t 30))], [1, 2, 3, 4, 5, 6, 7, 8, 9, 10, 11, 12, 13, 14, 15, 16, 17, 18], (.lone [])⟩,
   ⟨(some 32), none, .call 27 [(.t 12), (.t 31)], [0, 1, 2, 3, 4, 5, 6, 7, 8, 9, 10, 11, 12, 13, 14, 15, 16, 17, 18, 19], (.lone [])⟩,
   ⟨(some 4), none, .mv (.t 32), [0, 1, 2, 3, 4, 5, 6, 7, 8, 9, 10, 11, 12, 13, 14, 15, 16, 17, 18, 19, 20], (.new [])⟩])
 .ret))))⟩
theorem a13_ok : afn Try.prog 13 = some a13.er := by kernel_rfl
theorem F13_ok {x0 : (List Expectation)} {x1 : ByteArray} {r : (List Expectation)} (h : F13 x0 x1 = some r) : CallD Try.prog 13 [.c (.d (.sl (x0.map eExpectation))), .c (.d (.v (.string x1)))] [] (tupV [.c (.d (.sl (r.map eExpectation)))]) [] := by
  refine callS a13_ok (by simp [a13]) ?_
  rw [F13] at h
  simp only [a13, VW.down, Nat.reduceEqDiff, reduceCtorEq, Nat.reduceAdd, Nat.reduceLeDiff, Nat.reduceLT, Nat.reduceBEq, Nat.reduceSub, EE.down]
  obtain ⟨t1, ht1, h⟩ := Option.bind_eq_some_iff.1 h
  refine callX_n [] (F29_ok ht1) ?_ ?_ ?_ ?_ ?_ ?_
  · first | rfl | simp [nrmA, nrmC, nrm, A1.ren, C.ren, rn, List.length_set]
  · simp [liveAll, A1.live, C.live]
  · rfl
  · decide
  · exact trivial
  simp only [VW.down, Nat.reduceEqDiff, reduceCtorEq, Nat.reduceAdd, Nat.reduceLeDiff, Nat.reduceLT, Nat.reduceBEq, Nat.reduceSub, EE.down]
  refine condS (fun c2 => ?_) (fun c2 => ?_)
  · have h := (if_pos c2).symm.trans h
    simp only [VW.down, Nat.reduceEqDiff, reduceCtorEq, Nat.reduceAdd, Nat.reduceLeDiff, Nat.reduceLT, Nat.reduceBEq, Nat.reduceSub, EE.down]
    obtain rfl := Option.some.inj h
    exact eF []
  · have h := (if_neg c2).symm.trans h
    simp only [VW.down, Nat.reduceEqDiff, reduceCtorEq, Nat.reduceAdd, Nat.reduceLeDiff, Nat.reduceLT, Nat.reduceBEq, Nat.reduceSub, EE.down]
    obtain ⟨y3, hy3, h⟩ := Option.bind_eq_some_iff.1 h
    refine t_idxF (enc := eExpectation) (xs := x0) rfl rfl hy3 rfl ?_
    simp only [VW.down, Nat.reduceEqDiff, reduceCtorEq, Nat.reduceAdd, Nat.reduceLeDiff, Nat.reduceLT, Nat.reduceBEq, Nat.reduceSub, EE.down]
    refine t_idxF (enc := eExpectation) (xs := x0) rfl rfl hy3 rfl ?_
    simp only [VW.down, Nat.reduceEqDiff, reduceCtorEq, Nat.reduceAdd, Nat.reduceLeDiff, Nat.reduceLT, Nat.reduceBEq, Nat.reduceSub, EE.down]
    refine t_idxF (enc := eExpectation) (xs := x0) rfl rfl hy3 rfl ?_
    simp only [VW.down, Nat.reduceEqDiff, reduceCtorEq, Nat.reduceAdd, Nat.reduceLeDiff, Nat.reduceLT, Nat.reduceBEq, Nat.reduceSub, EE.down]
    obtain ⟨t4, ht4, h⟩ := Option.bind_eq_some_iff.1 h
    refine callX_n [] (F27_ok ht4) ?_ ?_ ?_ ?_ ?_ ?_
    · first | rfl | simp [nrmA, nrmC, nrm, A1.ren, C.ren, rn, List.length_set]
    · simp [liveAll, A1.live, C.live]
    · rfl
    · decide
    · exact trivial
    simp only [VW.down, Nat.reduceEqDiff, reduceCtorEq, Nat.reduceAdd, Nat.reduceLeDiff, Nat.reduceLT, Nat.reduceBEq, Nat.reduceSub, EE.down]
    obtain rfl := Option.some.inj h
    exact eF []
end Go.Proofs.Ytkgjaknjpdkaeaa
