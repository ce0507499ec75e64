/- Each Go function as a function over typed data, and its walk. -/
import Derived.Test.YtncofnbldpfegaaFE
import Derived.KernelRfl
import Derived.Test.YtncofnbldpfegaaProg
namespace Go.Proofs.Ytncofnbldpfegaa
open Go Go.Fw
set_option maxRecDepth 100000
set_option maxHeartbeats 4000000
set_option linter.unusedSimpArgs false
set_option linter.unusedVariables false
structure Image where
  Name : ByteArray
  Size : Int
  Used : Int
deriving DecidableEq
def okImage (x : Image) : Prop := okT x.Name ∧ okN x.Size ∧ okN x.Used ∧ True
def wImage (x : Image) : Nat := wS x.Name + (wN x.Size + (wN x.Used + 0)) + 1
def eImage (x : Image) : List D := [.v (.string x.Name), .v (.int .i64 x.Size), .v (.int .i64 x.Used)]
def EE := PLift.up (And.intro (And.intro @eI.eq_1 (And.intro @eB.eq_1 @eS.eq_1)) (And.intro @eK.eq_1 (And.intro @eL.eq_1 @eImage.eq_1)))
theorem eM {n m : Nat} {Q : XT → St → Prop} {R : St → Prop} {s' : St} {sl : List (Nat × AV)} {H' : List (Option Blk)} (σ : Src) (hR : R ⟨sl, H'⟩) (hB : shBs s'.heap σ H' σ H' := by simp only [ZZ.down, Nat.reduceEqDiff, reduceCtorEq, Nat.reduceAdd, Nat.reduceLeDiff, Nat.reduceLT, Nat.reduceBNe, EE.down]) (hk : keepS 0 (s'.heap.take m) σ H' := by simp only [ZZ.down, Nat.reduceEqDiff, reduceCtorEq, Nat.reduceAdd, Nat.reduceLeDiff, Nat.reduceLT, Nat.reduceBNe, EE.down]) (hs : shSl s'.heap σ H' s'.slots sl := by simp only [ZZ.down, Nat.reduceEqDiff, reduceCtorEq, Nat.reduceAdd, Nat.reduceLeDiff, Nat.reduceLT, Nat.reduceBNe, EE.down]) (hn : nodupS σ = true := by rfl) : sM n m R Q .normal s' := endM σ ⟨hB, hn, hk⟩ hs hR
theorem eL' {n m : Nat} {Q : XT → St → Prop} {I : Nat → St → Prop} {j : Nat} (k' : Nat) {s' : St} {sl : List (Nat × AV)} {H' : List (Option Blk)} (σ : Src) (hI : I k' ⟨sl, H'⟩) (hj : k' < j) (hB : shBs s'.heap σ H' σ H' := by simp only [ZZ.down, Nat.reduceEqDiff, reduceCtorEq, Nat.reduceAdd, Nat.reduceLeDiff, Nat.reduceLT, Nat.reduceBNe, EE.down]) (hk : keepS 0 (s'.heap.take m) σ H' := by simp only [ZZ.down, Nat.reduceEqDiff, reduceCtorEq, Nat.reduceAdd, Nat.reduceLeDiff, Nat.reduceLT, Nat.reduceBNe, EE.down]) (hs : shSl s'.heap σ H' s'.slots sl := by simp only [ZZ.down, Nat.reduceEqDiff, reduceCtorEq, Nat.reduceAdd, Nat.reduceLeDiff, Nat.reduceLT, Nat.reduceBNe, EE.down]) (hn : nodupS σ = true := by rfl) : sL n m I j Q .normal s' := endL k' hj σ ⟨hB, hn, hk⟩ hs hI
theorem bL {P : Program} {n m : Nat} {Q : XT → St → Prop} {s : St} {k : List Frm} {body : AC} (I : Nat → St → Prop) (k0 : Nat) {sl : List (Nat × AV)} {H' : List (Option Blk)} (σ : Src) (hI : I k0 ⟨sl, H'⟩) (hr : ∀ j s, I j s → sK P n m body [] (sL n m I j (sU P n m k Q)) s) (hB : shBs s.heap σ H' σ H' := by simp only [ZZ.down, Nat.reduceEqDiff, reduceCtorEq, Nat.reduceAdd, Nat.reduceLeDiff, Nat.reduceLT, Nat.reduceBNe, EE.down]) (hk : keepS 0 (s.heap.take m) σ H' := by simp only [ZZ.down, Nat.reduceEqDiff, reduceCtorEq, Nat.reduceAdd, Nat.reduceLeDiff, Nat.reduceLT, Nat.reduceBNe, EE.down]) (hs : shSl s.heap σ H' s.slots sl := by simp only [ZZ.down, Nat.reduceEqDiff, reduceCtorEq, Nat.reduceAdd, Nat.reduceLeDiff, Nat.reduceLT, Nat.reduceBNe, EE.down]) (hn : nodupS σ = true := by rfl) : WpC P n m (.loop body) (sU P n m k Q) s := begL I k0 σ ⟨hB, hn, hk⟩ hs hI hr
theorem eF {m : Nat} {h : List (Option Blk)} {l res : List A1} {H' : List (Option Blk)} (σ : Src) (hB : shBs h σ H' σ H' := by simp only [ZZ.down, Nat.reduceEqDiff, reduceCtorEq, Nat.reduceAdd, Nat.reduceLeDiff, Nat.reduceLT, Nat.reduceBNe, EE.down]) (hk : keepS 0 (h.take m) σ H' := by simp only [ZZ.down, Nat.reduceEqDiff, reduceCtorEq, Nat.reduceAdd, Nat.reduceLeDiff, Nat.reduceLT, Nat.reduceBNe, EE.down]) (hs : shAs h σ H' res l := by simp only [ZZ.down, Nat.reduceEqDiff, reduceCtorEq, Nat.reduceAdd, Nat.reduceLeDiff, Nat.reduceLT, Nat.reduceBNe, EE.down]) (hn : nodupS σ = true := by rfl) : Fin m h l res H' := fin_sh σ ⟨hB, hn, hk⟩ hs


/- orchestrator/orchestratorref52.Valid -/
def F7_l1 (x0 : (List Image)) : List Image → Nat → Option ((Bool) ⊕ (Unit))
  | [], o1_0 => some (Sum.inr (()))
  | xo1 :: xs, o1_0 => (((if xo1.Size < 0 then some true else (if 1000000000000000 < xo1.Size then some true else (if xo1.Used < 0 then some true else (if 1000000000000 < xo1.Used then some true else (if 0 < (o1_0 : Int) then (rdI x0 ((IntKind.i64.wrap (((o1_0 : Int)) - 1)))).bind fun y9 => some (nb (Op.bytesLess y9.Name.toList xo1.Name.toList)) else some false)))))).bind fun o3 => (if o3 = true then (some false).map Sum.inl else F7_l1 x0 xs (o1_0 + 1)))
def F7 (x0 : (List Image)) : Option (Bool) := (((ck (0 ≤ x0.length ∧ x0.length ≤ 4294967290)).bind fun u11 => F7_l1 x0 x0 0).bind fun o1 => match o1 with | Sum.inl f => some f | Sum.inr po1 => some (decide ((x0.length : Int) ≤ 64)))
def a7 : AFn := ⟨61, [(.tmp 2)],
 (.seq (.reg [⟨(some 2), none, .mv (kB false), [], true⟩])
 (.seq (.seq (.reg [⟨(some 3), none, .mv (kI 0), [], true⟩])
 (.sem (.block 0 (.loop (.seq (.seq (.reg [⟨(some 4), none, .mv (.t 3), [], false⟩,
   ⟨(some 5), none, .mv (.t 0), [], false⟩,
   ⟨(some 6), none, .len (.t 5), [], false⟩,
   ⟨(some 7), none, .bin .lss (.t 4) (.t 6), [], false⟩])
 (.cond (.t 7)
 .skip
 (.exit 0)))
 (.seq (.block 1 (.seq (.sem (.regd [⟨(some 10), none, .mv (.t 0), [], false⟩,
   ⟨(some 11), none, .mv (.t 3), [], false⟩,
   ⟨(some 12), none, .indexA 3 (.t 10) (.t 11), [0, 1], true⟩,
   ⟨(some 13), none, .fieldA 1 (.t 12), [0, 1, 2], true⟩,
   ⟨(some 14), none, .load none (.t 13), [0, 1, 2, 3], true⟩,
   ⟨(some 15), none, .bin .lss (.t 14) (kI 0), [0, 1, 2, 3, 4], true⟩,
   ⟨(some 16), none, .mv (.t 15), [0, 1, 2, 3, 4, 5], true⟩,
   ⟨(some 17), (some (16, false)), .mv (.t 0), [0, 1, 2, 3, 4, 5, 6], false⟩,
   ⟨(some 18), (some (16, false)), .mv (.t 3), [0, 1, 2, 3, 4, 5, 6], false⟩,
   ⟨(some 19), (some (16, false)), .indexA 3 (.t 17) (.t 18), [0, 1, 2, 3, 4, 5, 6, 7, 8], true⟩,
   ⟨(some 20), (some (16, false)), .fieldA 1 (.t 19), [0, 1, 2, 3, 4, 5, 6, 7, 8, 9], true⟩,
   ⟨(some 21), (some (16, false)), .load none (.t 20), [0, 1, 2, 3, 4, 5, 6, 7, 8, 9, 10], true⟩,
   ⟨(some 22), (some (16, false)), .bin .gtr (.t 21) (kI 1000000000000000), [0, 1, 2, 3, 4, 5, 6, 7, 8, 9, 10, 11], true⟩,
   ⟨(some 23), none, .pick (.t 16) (kB true) (.t 22), [0, 1, 2, 3, 4, 5, 6, 7, 8, 9, 10, 11, 12], true⟩,
   ⟨(some 24), none, .mv (.t 23), [0, 1, 2, 3, 4, 5, 6, 7, 8, 9, 10, 11, 12, 13], true⟩,
   ⟨(some 25), (some (24, false)), .mv (.t 0), [0, 1, 2, 3, 4, 5, 6, 7, 8, 9, 10, 11, 12, 13, 14], false⟩,
   ⟨(some 26), (some (24, false)), .mv (.t 3), [0, 1, 2, 3, 4, 5, 6, 7, 8, 9, 10, 11, 12, 13, 14], false⟩,
   ⟨(some 27), (some (24, false)), .indexA 3 (.t 25) (.t 26), [0, 1, 2, 3, 4, 5, 6, 7, 8, 9, 10, 11, 12, 13, 14, 15, 16], true⟩,
   ⟨(some 28), (some (24, false)), .fieldA 2 (.t 27), [0, 1, 2, 3, 4, 5, 6, 7, 8, 9, 10, 11, 12, 13, 14, 15, 16, 17], true⟩,
   ⟨(some 29), (some (24, false)), .load none (.t 28), [0, 1, 2, 3, 4, 5, 6, 7, 8, 9, 10, 11, 12, 13, 14, 15, 16, 17, 18], true⟩,
   ⟨(some 30), (some (24, false)), .bin .lss (.t 29) (kI 0), [0, 1, 2, 3, 4, 5, 6, 7, 8, 9, 10, 11, 12, 13, 14, 15, 16, 17, 18, 19], true⟩,
   ⟨(some 31), none, .pick (.t 24) (kB true) (.t 30), [0, 1, 2, 3, 4, 5, 6, 7, 8, 9, 10, 11, 12, 13, 14, 15, 16, 17, 18, 19, 20], true⟩,
   ⟨(some 32), none, .mv (.t 31), [0, 1, 2, 3, 4, 5, 6, 7, 8, 9, 10, 11, 12, 13, 14, 15, 16, 17, 18, 19, 20, 21], true⟩,
   ⟨(some 33), (some (32, false)), .mv (.t 0), [0, 1, 2, 3, 4, 5, 6, 7, 8, 9, 10, 11, 12, 13, 14, 15, 16, 17, 18, 19, 20, 21, 22], false⟩,
   ⟨(some 34), (some (32, false)), .mv (.t 3), [0, 1, 2, 3, 4, 5, 6, 7, 8, 9, 10, 11, 12, 13, 14, 15, 16, 17, 18, 19, 20, 21, 22], false⟩,
   ⟨(some 35), (some (32, false)), .indexA 3 (.t 33) (.t 34), [0, 1, 2, 3, 4, 5, 6, 7, 8, 9, 10, 11, 12, 13, 14, 15, 16, 17, 18, 19, 20, 21, 22, 23, 24], true⟩,
   ⟨(some 36), (some (32, false)), .fieldA 2 (.t 35), [0, 1, 2, 3, 4, 5, 6, 7, 8, 9, 10, 11, 12, 13, 14, 15, 16, 17, 18, 19, 20, 21, 22, 23, 24, 25], true⟩,
   ⟨(some 37), (some (32, false)), .load none (.t 36), [0, 1, 2, 3, 4, 5, 6, 7, 8, 9, 10, 11, 12, 13, 14, 15, 16, 17, 18, 19, 20, 21, 22, 23, 24, 25, 26], true⟩,
   ⟨(some 38), (some (32, false)), .bin .gtr (.t 37) (kI 1000000000000), [0, 1, 2, 3, 4, 5, 6, 7, 8, 9, 10, 11, 12, 13, 14, 15, 16, 17, 18, 19, 20, 21, 22, 23, 24, 25, 26, 27], true⟩,
   ⟨(some 39), none, .pick (.t 32) (kB true) (.t 38), [0, 1, 2, 3, 4, 5, 6, 7, 8, 9, 10, 11, 12, 13, 14, 15, 16, 17, 18, 19, 20, 21, 22, 23, 24, 25, 26, 27, 28], true⟩,
   ⟨(some 40), none, .mv (.t 39), [0, 1, 2, 3, 4, 5, 6, 7, 8, 9, 10, 11, 12, 13, 14, 15, 16, 17, 18, 19, 20, 21, 22, 23, 24, 25, 26, 27, 28, 29], true⟩,
   ⟨(some 41), (some (40, false)), .mv (.t 3), [0, 1, 2, 3, 4, 5, 6, 7, 8, 9, 10, 11, 12, 13, 14, 15, 16, 17, 18, 19, 20, 21, 22, 23, 24, 25, 26, 27, 28, 29, 30], true⟩,
   ⟨(some 42), (some (40, false)), .bin .gtr (.t 41) (kI 0), [0, 1, 2, 3, 4, 5, 6, 7, 8, 9, 10, 11, 12, 13, 14, 15, 16, 17, 18, 19, 20, 21, 22, 23, 24, 25, 26, 27, 28, 29, 30, 31], true⟩,
   ⟨(some 43), (some (40, false)), .mv (.t 42), [0, 1, 2, 3, 4, 5, 6, 7, 8, 9, 10, 11, 12, 13, 14, 15, 16, 17, 18, 19, 20, 21, 22, 23, 24, 25, 26, 27, 28, 29, 30, 31, 32], true⟩,
   ⟨(some 44), (some (43, true)), .mv (.t 0), [0, 1, 2, 3, 4, 5, 6, 7, 8, 9, 10, 11, 12, 13, 14, 15, 16, 17, 18, 19, 20, 21, 22, 23, 24, 25, 26, 27, 28, 29, 30, 31, 32, 33], false⟩,
   ⟨(some 45), (some (43, true)), .mv (.t 3), [0, 1, 2, 3, 4, 5, 6, 7, 8, 9, 10, 11, 12, 13, 14, 15, 16, 17, 18, 19, 20, 21, 22, 23, 24, 25, 26, 27, 28, 29, 30, 31, 32, 33], false⟩,
   ⟨(some 46), (some (43, true)), .bin .sub (.t 45) (kI 1), [0, 1, 2, 3, 4, 5, 6, 7, 8, 9, 10, 11, 12, 13, 14, 15, 16, 17, 18, 19, 20, 21, 22, 23, 24, 25, 26, 27, 28, 29, 30, 31, 32, 33, 35], false⟩,
   ⟨(some 47), (some (43, true)), .indexA 3 (.t 44) (.t 46), [0, 1, 2, 3, 4, 5, 6, 7, 8, 9, 10, 11, 12, 13, 14, 15, 16, 17, 18, 19, 20, 21, 22, 23, 24, 25, 26, 27, 28, 29, 30, 31, 32, 33, 34, 35, 36], false⟩,
   ⟨(some 48), (some (43, true)), .fieldA 0 (.t 47), [0, 1, 2, 3, 4, 5, 6, 7, 8, 9, 10, 11, 12, 13, 14, 15, 16, 17, 18, 19, 20, 21, 22, 23, 24, 25, 26, 27, 28, 29, 30, 31, 32, 33, 34, 35, 36, 37], false⟩,
   ⟨(some 49), (some (43, true)), .load none (.t 48), [0, 1, 2, 3, 4, 5, 6, 7, 8, 9, 10, 11, 12, 13, 14, 15, 16, 17, 18, 19, 20, 21, 22, 23, 24, 25, 26, 27, 28, 29, 30, 31, 32, 33, 34, 35, 36, 37, 38], false⟩,
   ⟨(some 50), (some (43, true)), .mv (.t 0), [0, 1, 2, 3, 4, 5, 6, 7, 8, 9, 10, 11, 12, 13, 14, 15, 16, 17, 18, 19, 20, 21, 22, 23, 24, 25, 26, 27, 28, 29, 30, 31, 32, 33], false⟩,
   ⟨(some 51), (some (43, true)), .mv (.t 3), [0, 1, 2, 3, 4, 5, 6, 7, 8, 9, 10, 11, 12, 13, 14, 15, 16, 17, 18, 19, 20, 21, 22, 23, 24, 25, 26, 27, 28, 29, 30, 31, 32, 33], false⟩,
   ⟨(some 52), (some (43, true)), .indexA 3 (.t 50) (.t 51), [0, 1, 2, 3, 4, 5, 6, 7, 8, 9, 10, 11, 12, 13, 14, 15, 16, 17, 18, 19, 20, 21, 22, 23, 24, 25, 26, 27, 28, 29, 30, 31, 32, 33, 40, 41], false⟩,
   ⟨(some 53), (some (43, true)), .fieldA 0 (.t 52), [0, 1, 2, 3, 4, 5, 6, 7, 8, 9, 10, 11, 12, 13, 14, 15, 16, 17, 18, 19, 20, 21, 22, 23, 24, 25, 26, 27, 28, 29, 30, 31, 32, 33, 40, 41, 42], false⟩,
   ⟨(some 54), (some (43, true)), .load none (.t 53), [0, 1, 2, 3, 4, 5, 6, 7, 8, 9, 10, 11, 12, 13, 14, 15, 16, 17, 18, 19, 20, 21, 22, 23, 24, 25, 26, 27, 28, 29, 30, 31, 32, 33, 40, 41, 42, 43], false⟩,
   ⟨(some 55), (some (43, true)), .bin .geq (.t 49) (.t 54), [0, 1, 2, 3, 4, 5, 6, 7, 8, 9, 10, 11, 12, 13, 14, 15, 16, 17, 18, 19, 20, 21, 22, 23, 24, 25, 26, 27, 28, 29, 30, 31, 32, 33, 34, 35, 36, 37, 38, 39, 40, 41, 42, 43, 44], true⟩,
   ⟨(some 56), (some (40, false)), .pick (.t 43) (.t 55) (kB false), [0, 1, 2, 3, 4, 5, 6, 7, 8, 9, 10, 11, 12, 13, 14, 15, 16, 17, 18, 19, 20, 21, 22, 23, 24, 25, 26, 27, 28, 29, 30, 31, 32, 33, 34, 35, 36, 37, 38, 39, 40, 41, 42, 43, 44, 45], true⟩,
   ⟨(some 57), none, .pick (.t 40) (kB true) (.t 56), [0, 1, 2, 3, 4, 5, 6, 7, 8, 9, 10, 11, 12, 13, 14, 15, 16, 17, 18, 19, 20, 21, 22, 23, 24, 25, 26, 27, 28, 29, 30, 31, 32, 33, 34, 35, 36, 37, 38, 39, 40, 41, 42, 43, 44, 45, 46], true⟩]))
 (.cond (.t 57)
 (.seq (.reg [⟨(some 2), none, .mv (kB false), [], true⟩])
 .ret)
 .skip)))
 (.reg [⟨(some 8), none, .mv (.t 3), [], false⟩,
   ⟨(some 9), none, .bin .add (.t 8) (kI 1), [], false⟩,
   ⟨(some 3), none, .mv (.t 9), [], false⟩])))))))
 (.seq (.reg [⟨(some 58), none, .mv (.t 0), [], false⟩,
   ⟨(some 59), none, .len (.t 58), [], false⟩,
   ⟨(some 60), none, .bin .leq (.t 59) (kI 64), [], false⟩,
   ⟨(some 2), none, .mv (.t 60), [], false⟩])
 .ret)))⟩
theorem a7_ok : afn Try.prog 7 = some a7.er := by kernel_rfl
theorem F7_ok {x0 : (List Image)} {r : Bool} (h : F7 x0 = some r) : CallD Try.prog 7 [.c (.d (.sl (x0.map eImage)))] [] (tupV [.c (.d (.v (.bool r)))]) [] := by
  refine callS a7_ok (by simp [a7]) ?_
  rw [F7] at h
  simp only [a7, VW.down, Nat.reduceEqDiff, reduceCtorEq, Nat.reduceAdd, Nat.reduceLeDiff, Nat.reduceLT, EE.down]
  obtain ⟨o1, ho, h⟩ := Option.bind_eq_some_iff.1 h
  refine cutS (fun s => ∃ po1, o1 = Sum.inr po1 ∧ s = ⟨[(0, .one (.c (.d (.sl (x0.map eImage)))))], []⟩) ?_ ?_
  · have h0o1 := h
    have h := ho
    clear ho
    obtain ⟨_, hk, h⟩ := Option.bind_eq_some_iff.1 h
    have hk := ck_some hk
    simp only [VW.down, Nat.reduceEqDiff, reduceCtorEq, Nat.reduceAdd, Nat.reduceLeDiff, Nat.reduceLT, EE.down]
    refine bL (fun j s => ∃ (o1_0 : Nat), (o1_0 ≤ x0.length ∧ j = x0.length - o1_0) ∧ s = ⟨[(0, .one (.c (.d (.sl (x0.map eImage))))), (3, .one (.c (.d (.v (.int .i64 ((o1_0 : Int)))))))], []⟩ ∧ F7_l1 x0 (x0.drop o1_0) o1_0 = some o1) (x0.length - 0) [] ⟨0, ⟨hk.1, rfl⟩, rfl, h⟩ ?_
    rintro _ _ ⟨o1_0, ⟨hi, rfl⟩, rfl, h⟩
    simp only [VW.down, Nat.reduceEqDiff, reduceCtorEq, Nat.reduceAdd, Nat.reduceLeDiff, Nat.reduceLT, EE.down]
    refine condS (fun c2 => ?_) (fun c2 => ?_)
    · obtain ⟨xo1, hxo1, hd⟩ := countY c2
      rw [hd, F7_l1] at h
      simp only [VW.down, Nat.reduceEqDiff, reduceCtorEq, Nat.reduceAdd, Nat.reduceLeDiff, Nat.reduceLT, EE.down]
      obtain ⟨o3, ho, h⟩ := Option.bind_eq_some_iff.1 h
      refine cutS (fun s => s = ⟨[(0, .one (.c (.d (.sl (x0.map eImage))))), (3, .one (.c (.d (.v (.int .i64 ((o1_0 : Int))))))), (57, .one (.c (.d (.v (.bool o3)))))], []⟩) ?_ ?_
      · have h := ho
        clear ho
        simp only [VW.down, Nat.reduceEqDiff, reduceCtorEq, Nat.reduceAdd, Nat.reduceLeDiff, Nat.reduceLT, EE.down]
        refine t_idxF (enc := eImage) (xs := x0) rfl rfl hxo1 rfl ?_
        simp only [VW.down, Nat.reduceEqDiff, reduceCtorEq, Nat.reduceAdd, Nat.reduceLeDiff, Nat.reduceLT, EE.down]
        refine guardD (fun g4 => ?_) (fun g4 => ?_)
        · have h := (if_pos g4).symm.trans h
          simp only [VW.down, Nat.reduceEqDiff, reduceCtorEq, Nat.reduceAdd, Nat.reduceLeDiff, Nat.reduceLT, EE.down]
          obtain rfl := Option.some.inj h
          exact eM [] rfl
        · have h := (if_neg g4).symm.trans h
          simp only [VW.down, Nat.reduceEqDiff, reduceCtorEq, Nat.reduceAdd, Nat.reduceLeDiff, Nat.reduceLT, EE.down]
          refine t_idxF (enc := eImage) (xs := x0) rfl rfl hxo1 rfl ?_
          simp only [VW.down, Nat.reduceEqDiff, reduceCtorEq, Nat.reduceAdd, Nat.reduceLeDiff, Nat.reduceLT, EE.down]
          refine guardD (fun g5 => ?_) (fun g5 => ?_)
          · have h := (if_pos g5).symm.trans h
            simp only [VW.down, Nat.reduceEqDiff, reduceCtorEq, Nat.reduceAdd, Nat.reduceLeDiff, Nat.reduceLT, EE.down]
            obtain rfl := Option.some.inj h
            exact eM [] rfl
          · have h := (if_neg g5).symm.trans h
            simp only [VW.down, Nat.reduceEqDiff, reduceCtorEq, Nat.reduceAdd, Nat.reduceLeDiff, Nat.reduceLT, EE.down]
            refine t_idxF (enc := eImage) (xs := x0) rfl rfl hxo1 rfl ?_
            simp only [VW.down, Nat.reduceEqDiff, reduceCtorEq, Nat.reduceAdd, Nat.reduceLeDiff, Nat.reduceLT, EE.down]
            refine guardD (fun g6 => ?_) (fun g6 => ?_)
            · have h := (if_pos g6).symm.trans h
              simp only [VW.down, Nat.reduceEqDiff, reduceCtorEq, Nat.reduceAdd, Nat.reduceLeDiff, Nat.reduceLT, EE.down]
              obtain rfl := Option.some.inj h
              exact eM [] rfl
            · have h := (if_neg g6).symm.trans h
              simp only [VW.down, Nat.reduceEqDiff, reduceCtorEq, Nat.reduceAdd, Nat.reduceLeDiff, Nat.reduceLT, EE.down]
              refine t_idxF (enc := eImage) (xs := x0) rfl rfl hxo1 rfl ?_
              simp only [VW.down, Nat.reduceEqDiff, reduceCtorEq, Nat.reduceAdd, Nat.reduceLeDiff, Nat.reduceLT, EE.down]
              refine guardD (fun g7 => ?_) (fun g7 => ?_)
              · have h := (if_pos g7).symm.trans h
                simp only [VW.down, Nat.reduceEqDiff, reduceCtorEq, Nat.reduceAdd, Nat.reduceLeDiff, Nat.reduceLT, EE.down]
                obtain rfl := Option.some.inj h
                exact eM [] rfl
              · have h := (if_neg g7).symm.trans h
                simp only [VW.down, Nat.reduceEqDiff, reduceCtorEq, Nat.reduceAdd, Nat.reduceLeDiff, Nat.reduceLT, EE.down]
                refine guardD (fun g8 => ?_) (fun g8 => ?_)
                · have h := (if_pos g8).symm.trans h
                  simp only [VW.down, Nat.reduceEqDiff, reduceCtorEq, Nat.reduceAdd, Nat.reduceLeDiff, Nat.reduceLT, EE.down]
                  obtain ⟨y9, hy9, h⟩ := Option.bind_eq_some_iff.1 h
                  refine t_idxF (enc := eImage) (xs := x0) rfl rfl hy9 rfl ?_
                  simp only [VW.down, Nat.reduceEqDiff, reduceCtorEq, Nat.reduceAdd, Nat.reduceLeDiff, Nat.reduceLT, EE.down]
                  refine t_idxF (enc := eImage) (xs := x0) rfl rfl hxo1 rfl ?_
                  simp only [VW.down, Nat.reduceEqDiff, reduceCtorEq, Nat.reduceAdd, Nat.reduceLeDiff, Nat.reduceLT, EE.down]
                  obtain rfl := Option.some.inj h
                  exact eM [] rfl
                · have h := (if_neg g8).symm.trans h
                  simp only [VW.down, Nat.reduceEqDiff, reduceCtorEq, Nat.reduceAdd, Nat.reduceLeDiff, Nat.reduceLT, EE.down]
                  obtain rfl := Option.some.inj h
                  exact eM [] rfl
      · rintro _ rfl
        clear ho
        simp only [VW.down, Nat.reduceEqDiff, reduceCtorEq, Nat.reduceAdd, Nat.reduceLeDiff, Nat.reduceLT, EE.down]
        refine condB (fun c10 => ?_) (fun c10 => ?_)
        · have h := (if_pos c10).symm.trans h
          simp only [VW.down, Nat.reduceEqDiff, reduceCtorEq, Nat.reduceAdd, Nat.reduceLeDiff, Nat.reduceLT, EE.down]
          obtain ⟨fh0o1, hfh0o1, rfl⟩ := Option.map_eq_some_iff.1 h
          have h := hfh0o1.trans h0o1
          obtain rfl := Option.some.inj h
          exact eF []
        · have h := (if_neg c10).symm.trans h
          simp only [VW.down, Nat.reduceEqDiff, reduceCtorEq, Nat.reduceAdd, Nat.reduceLeDiff, Nat.reduceLT, EE.down]
          rw [wrapN (by omega)]
          exact eL' (x0.length - (o1_0 + 1)) [] ⟨o1_0 + 1, ⟨by omega, rfl⟩, rfl, h⟩ (by omega)
    · rw [countN c2, F7_l1] at h
      simp only [VW.down, Nat.reduceEqDiff, reduceCtorEq, Nat.reduceAdd, Nat.reduceLeDiff, Nat.reduceLT, EE.down]
      obtain rfl := Option.some.inj h
      exact eM [] ⟨_, rfl, rfl⟩
  · rintro _ ⟨po1, rfl, rfl⟩
    clear ho
    dsimp only at h
    simp only [VW.down, Nat.reduceEqDiff, reduceCtorEq, Nat.reduceAdd, Nat.reduceLeDiff, Nat.reduceLT, EE.down]
    obtain rfl := Option.some.inj h
    exact eF []

/- slices.Clone[[]orchestrator/api.Image,orchestrator/api.Image] -/
theorem a17_ok : afn Try.prog 17 = some (cloneA 3 32) := by kernel_rfl
theorem F17_ok {x0 r : List Image} (h : cloneI x0 = some r) : CallD Try.prog 17 [.c (.d (.sl (x0.map eImage)))] [] (tupV [.c (.own 0 1 0 r.length none)]) [some (.arr 1 3 (r.map eImage))] := L_clone a17_ok (fun _ => rfl) h

/- orchestrator/image.total -/
def F22_l1  : List Image → Nat → Int → Option (Int)
  | [], o1_1, o1_0 => some o1_0
  | xo1 :: xs, o1_1, o1_0 => F22_l1  xs (o1_1 + 1) ((IntKind.i64.wrap (o1_0 + xo1.Size)))
def F22 (x0 : (List Image)) : Option (Int) := (((ck (0 ≤ x0.length ∧ x0.length ≤ 4294967290)).bind fun u3 => F22_l1 x0 0 0).bind fun o1 => some o1)
def a22 : AFn := ⟨18, [(.tmp 2)],
 (.seq (.reg [⟨(some 2), none, .mv (kI 0), [], true⟩])
 (.seq (.reg [⟨(some 3), none, .mv (kI 0), [], true⟩])
 (.seq (.seq (.reg [⟨(some 6), none, .mv (.t 0), [], false⟩,
   ⟨(some 7), none, .len (.t 6), [], false⟩,
   ⟨(some 8), none, .mv (kI 0), [], false⟩])
 (.sem (.block 0 (.loop (.seq (.reg [⟨(some 9), none, .bin .lss (.t 8) (.t 7), [], true⟩])
 (.seq (.cond (.t 9)
 .skip
 (.exit 0))
 (.seq (.block 1 (.seq (.reg [⟨(some 10), none, .indexA 3 (.t 6) (.t 8), [], false⟩,
   ⟨(some 11), none, .load (some 3) (.t 10), [], false⟩,
   ⟨(some 5), none, .zbox [.d (.v (.string ⟨#[]⟩)), .d (.v (.int .i64 0)), .d (.v (.int .i64 0))], [], false⟩,
   ⟨none, none, .store 3 (.t 5) (.t 11), [], false⟩])
 (.reg [⟨(some 12), none, .mv (.t 3), [], false⟩,
   ⟨(some 13), none, .fieldA 1 (.t 5), [], false⟩,
   ⟨(some 14), none, .load none (.t 13), [], false⟩,
   ⟨(some 15), none, .bin .add (.t 12) (.t 14), [], false⟩,
   ⟨(some 3), none, .mv (.t 15), [], false⟩])))
 (.reg [⟨(some 16), none, .bin .add (.t 8) (kI 1), [], false⟩,
   ⟨(some 8), none, .mv (.t 16), [], false⟩]))))))))
 (.seq (.reg [⟨(some 17), none, .mv (.t 3), [], false⟩,
   ⟨(some 2), none, .mv (.t 17), [], false⟩])
 .ret))))⟩
theorem a22_ok : afn Try.prog 22 = some a22.er := by kernel_rfl
theorem F22_ok {x0 : (List Image)} {r : Int} (h : F22 x0 = some r) : CallD Try.prog 22 [.c (.d (.sl (x0.map eImage)))] [] (tupV [.c (.d (.v (.int .i64 r)))]) [] := by
  refine callS a22_ok (by simp [a22]) ?_
  rw [F22] at h
  simp only [a22, VW.down, Nat.reduceEqDiff, reduceCtorEq, Nat.reduceAdd, Nat.reduceLeDiff, Nat.reduceLT, EE.down]
  obtain ⟨o1, ho, h⟩ := Option.bind_eq_some_iff.1 h
  refine cutS (fun s => s = ⟨[(3, .one (.c (.d (.v (.int .i64 o1)))))], []⟩) ?_ ?_
  · have h := ho
    clear ho
    obtain ⟨_, hk, h⟩ := Option.bind_eq_some_iff.1 h
    have hk := ck_some hk
    simp only [VW.down, Nat.reduceEqDiff, reduceCtorEq, Nat.reduceAdd, Nat.reduceLeDiff, Nat.reduceLT, EE.down]
    refine bL (fun j s => ∃ (o1_1 : Nat) (o1_0 : Int), (o1_1 ≤ x0.length ∧ j = x0.length - o1_1) ∧ s = ⟨[(3, .one (.c (.d (.v (.int .i64 o1_0))))), (6, .one (.c (.d (.sl (x0.map eImage))))), (7, .one (.c (.d (.v (.int .i64 ((x0.length : Int))))))), (8, .one (.c (.d (.v (.int .i64 ((o1_1 : Int)))))))], []⟩ ∧ F22_l1 (x0.drop o1_1) o1_1 o1_0 = some o1) (x0.length - 0) [] ⟨0, 0, ⟨hk.1, rfl⟩, rfl, h⟩ ?_
    rintro _ _ ⟨o1_1, o1_0, ⟨hi, rfl⟩, rfl, h⟩
    simp only [VW.down, Nat.reduceEqDiff, reduceCtorEq, Nat.reduceAdd, Nat.reduceLeDiff, Nat.reduceLT, EE.down]
    refine condS (fun c2 => ?_) (fun c2 => ?_)
    · obtain ⟨xo1, hxo1, hd⟩ := countY c2
      rw [hd, F22_l1] at h
      simp only [VW.down, Nat.reduceEqDiff, reduceCtorEq, Nat.reduceAdd, Nat.reduceLeDiff, Nat.reduceLT, EE.down]
      refine t_idxF (enc := eImage) (xs := x0) rfl rfl hxo1 rfl ?_
      simp only [VW.down, Nat.reduceEqDiff, reduceCtorEq, Nat.reduceAdd, Nat.reduceLeDiff, Nat.reduceLT, EE.down]
      rw [wrapN (by omega)]
      exact eL' (x0.length - (o1_1 + 1)) [] ⟨o1_1 + 1, (IntKind.i64.wrap (o1_0 + xo1.Size)), ⟨by omega, rfl⟩, rfl, h⟩ (by omega)
    · rw [countN c2, F22_l1] at h
      simp only [VW.down, Nat.reduceEqDiff, reduceCtorEq, Nat.reduceAdd, Nat.reduceLeDiff, Nat.reduceLT, EE.down]
      obtain rfl := Option.some.inj h
      exact eM [] rfl
  · rintro _ rfl
    clear ho
    simp only [VW.down, Nat.reduceEqDiff, reduceCtorEq, Nat.reduceAdd, Nat.reduceLeDiff, Nat.reduceLT, EE.down]
    obtain rfl := Option.some.inj h
    exact eF []

/- slices.Index[[]string,string] -/
def F31_l1 (x1 : ByteArray) : List ByteArray → Nat → Option ((Int) ⊕ (Unit))
  | [], o1_0 => some (Sum.inr (()))
  | xo1 :: xs, o1_0 => (if x1 = xo1 then (some ((o1_0 : Int))).map Sum.inl else F31_l1 x1 xs (o1_0 + 1))
def F31 (x0 : (List ByteArray)) (x1 : ByteArray) : Option (Int) := (((ck (0 ≤ x0.length ∧ x0.length ≤ 4294967290)).bind fun u4 => F31_l1 x1 x0 0).bind fun o1 => match o1 with | Sum.inl f => some f | Sum.inr po1 => some ((-1)))
def a31 : AFn := ⟨19, [(.tmp 4)],
 (.seq (.reg [⟨(some 4), none, .mv (kI 0), [], true⟩])
 (.seq (.seq (.reg [⟨(some 6), none, .mv (.t 0), [], false⟩,
   ⟨(some 7), none, .len (.t 6), [], false⟩,
   ⟨(some 8), none, .mv (kI 0), [], false⟩])
 (.sem (.block 0 (.loop (.seq (.reg [⟨(some 9), none, .bin .lss (.t 8) (.t 7), [], true⟩])
 (.seq (.cond (.t 9)
 .skip
 (.exit 0))
 (.seq (.block 1 (.seq (.reg [⟨(some 10), none, .mv (.t 8), [], false⟩,
   ⟨(some 5), none, .mv (.t 10), [], false⟩])
 (.seq (.reg [⟨(some 11), none, .mv (.t 1), [], false⟩,
   ⟨(some 12), none, .mv (.t 0), [], false⟩,
   ⟨(some 13), none, .mv (.t 5), [], false⟩,
   ⟨(some 14), none, .indexA 1 (.t 12) (.t 13), [], false⟩,
   ⟨(some 15), none, .load none (.t 14), [], false⟩,
   ⟨(some 16), none, .bin .eql (.t 11) (.t 15), [], false⟩])
 (.cond (.t 16)
 (.seq (.reg [⟨(some 17), none, .mv (.t 5), [], false⟩,
   ⟨(some 4), none, .mv (.t 17), [], false⟩])
 .ret)
 .skip))))
 (.reg [⟨(some 18), none, .bin .add (.t 8) (kI 1), [], false⟩,
   ⟨(some 8), none, .mv (.t 18), [], false⟩]))))))))
 (.seq (.reg [⟨(some 4), none, .mv (kI (-1)), [], true⟩])
 .ret)))⟩
theorem a31_ok : afn Try.prog 31 = some a31.er := by kernel_rfl
theorem F31_ok {x0 : (List ByteArray)} {x1 : ByteArray} {r : Int} (h : F31 x0 x1 = some r) : CallD Try.prog 31 [.c (.d (.sl (x0.map eS))), .c (.d (.v (.string x1)))] [] (tupV [.c (.d (.v (.int .i64 r)))]) [] := by
  refine callS a31_ok (by simp [a31]) ?_
  rw [F31] at h
  simp only [a31, VW.down, Nat.reduceEqDiff, reduceCtorEq, Nat.reduceAdd, Nat.reduceLeDiff, Nat.reduceLT, EE.down]
  obtain ⟨o1, ho, h⟩ := Option.bind_eq_some_iff.1 h
  refine cutS (fun s => ∃ po1, o1 = Sum.inr po1 ∧ s = ⟨[], []⟩) ?_ ?_
  · have h0o1 := h
    have h := ho
    clear ho
    obtain ⟨_, hk, h⟩ := Option.bind_eq_some_iff.1 h
    have hk := ck_some hk
    simp only [VW.down, Nat.reduceEqDiff, reduceCtorEq, Nat.reduceAdd, Nat.reduceLeDiff, Nat.reduceLT, EE.down]
    refine bL (fun j s => ∃ (o1_0 : Nat), (o1_0 ≤ x0.length ∧ j = x0.length - o1_0) ∧ s = ⟨[(0, .one (.c (.d (.sl (x0.map eS))))), (1, .one (.c (.d (.v (.string x1))))), (7, .one (.c (.d (.v (.int .i64 ((x0.length : Int))))))), (8, .one (.c (.d (.v (.int .i64 ((o1_0 : Int)))))))], []⟩ ∧ F31_l1 x1 (x0.drop o1_0) o1_0 = some o1) (x0.length - 0) [] ⟨0, ⟨hk.1, rfl⟩, rfl, h⟩ ?_
    rintro _ _ ⟨o1_0, ⟨hi, rfl⟩, rfl, h⟩
    simp only [VW.down, Nat.reduceEqDiff, reduceCtorEq, Nat.reduceAdd, Nat.reduceLeDiff, Nat.reduceLT, EE.down]
    refine condS (fun c2 => ?_) (fun c2 => ?_)
    · obtain ⟨xo1, hxo1, hd⟩ := countY c2
      rw [hd, F31_l1] at h
      simp only [VW.down, Nat.reduceEqDiff, reduceCtorEq, Nat.reduceAdd, Nat.reduceLeDiff, Nat.reduceLT, EE.down]
      refine t_idxF (enc := eS) (xs := x0) rfl rfl hxo1 rfl ?_
      simp only [VW.down, Nat.reduceEqDiff, reduceCtorEq, Nat.reduceAdd, Nat.reduceLeDiff, Nat.reduceLT, EE.down]
      refine condS (fun c3 => ?_) (fun c3 => ?_)
      · have h := (if_pos c3).symm.trans h
        simp only [VW.down, Nat.reduceEqDiff, reduceCtorEq, Nat.reduceAdd, Nat.reduceLeDiff, Nat.reduceLT, EE.down]
        obtain ⟨fh0o1, hfh0o1, rfl⟩ := Option.map_eq_some_iff.1 h
        have h := hfh0o1.trans h0o1
        obtain rfl := Option.some.inj h
        exact eF []
      · have h := (if_neg c3).symm.trans h
        simp only [VW.down, Nat.reduceEqDiff, reduceCtorEq, Nat.reduceAdd, Nat.reduceLeDiff, Nat.reduceLT, EE.down]
        rw [wrapN (by omega)]
        exact eL' (x0.length - (o1_0 + 1)) [] ⟨o1_0 + 1, ⟨by omega, rfl⟩, rfl, h⟩ (by omega)
    · rw [countN c2, F31_l1] at h
      simp only [VW.down, Nat.reduceEqDiff, reduceCtorEq, Nat.reduceAdd, Nat.reduceLeDiff, Nat.reduceLT, EE.down]
      obtain rfl := Option.some.inj h
      exact eM [] ⟨_, rfl, rfl⟩
  · rintro _ ⟨po1, rfl, rfl⟩
    clear ho
    dsimp only at h
    simp only [VW.down, Nat.reduceEqDiff, reduceCtorEq, Nat.reduceAdd, Nat.reduceLeDiff, Nat.reduceLT, EE.down]
    obtain rfl := Option.some.inj h
    exact eF []

/- slices.Contains[[]string,string] -/
def F28 (x0 : (List ByteArray)) (x1 : ByteArray) : Option (Bool) := (F31 x0 x1).bind fun t1 => some (decide (0 ≤ t1))
def a28 : AFn := ⟨9, [(.tmp 4)],
 (.seq (.reg [⟨(some 4), none, .mv (kB false), [], true⟩])
 (.seq (.reg [⟨(some 5), none, .mv (.t 0), [], false⟩,
   ⟨(some 6), none, .mv (.t 1), [], false⟩,
   ⟨(some 7), none, .call 31 [(.t 5), (.t 6)], [], false⟩,
   ⟨(some 8), none, .bin .geq (.t 7) (kI 0), [], false⟩,
   ⟨(some 4), none, .mv (.t 8), [], false⟩])
 .ret))⟩
theorem a28_ok : afn Try.prog 28 = some a28.er := by kernel_rfl
theorem F28_ok {x0 : (List ByteArray)} {x1 : ByteArray} {r : Bool} (h : F28 x0 x1 = some r) : CallD Try.prog 28 [.c (.d (.sl (x0.map eS))), .c (.d (.v (.string x1)))] [] (tupV [.c (.d (.v (.bool r)))]) [] := by
  refine callS a28_ok (by simp [a28]) ?_
  rw [F28] at h
  simp only [a28, VW.down, Nat.reduceEqDiff, reduceCtorEq, Nat.reduceAdd, Nat.reduceLeDiff, Nat.reduceLT, EE.down]
  obtain ⟨t1, ht1, h⟩ := Option.bind_eq_some_iff.1 h
  refine callX_n [] (F31_ok ht1) ?_ ?_ ?_ ?_ ?_ ?_
  · first | rfl | simp [nrmA, nrmC, nrm, A1.ren, C.ren, rn, List.length_set]
  · simp [liveAll, A1.live, C.live]
  · rfl
  · decide
  · exact trivial
  simp only [VW.down, Nat.reduceEqDiff, reduceCtorEq, Nat.reduceAdd, Nat.reduceLeDiff, Nat.reduceLT, EE.down]
  obtain rfl := Option.some.inj h
  exact eF []

/- orchestrator/image.oldest -/
def F23_l1 (x0 : (List Image)) (x1 : (List ByteArray)) : List Image → Nat → Int → Option (Int)
  | [], o1_1, o1_0 => some o1_0
  | xo1 :: xs, o1_1, o1_0 => (((((F28 x1 xo1.Name).bind fun t5 => (if (nb t5) = true then (if o1_0 < 0 then some true else (rdI x0 o1_0).bind fun y8 => some (decide (xo1.Used < y8.Used))) else some false)).bind fun o4 => (if o4 = true then some ((o1_1 : Int)) else some o1_0))).bind fun o3 => F23_l1 x0 x1 xs (o1_1 + 1) o3)
def F23 (x0 : (List Image)) (x1 : (List ByteArray)) : Option (Int) := (((ck (0 ≤ x0.length ∧ x0.length ≤ 4294967290)).bind fun u10 => F23_l1 x0 x1 x0 0 ((-1))).bind fun o1 => some o1)
def a23 : AFn := ⟨37, [(.tmp 4)],
 (.seq (.reg [⟨(some 4), none, .mv (kI 0), [], true⟩])
 (.seq (.reg [⟨(some 5), none, .mv (kI (-1)), [], true⟩])
 (.seq (.seq (.reg [⟨(some 8), none, .mv (.t 0), [], false⟩,
   ⟨(some 9), none, .len (.t 8), [], false⟩,
   ⟨(some 10), none, .mv (kI 0), [], false⟩])
 (.sem (.block 0 (.loop (.seq (.reg [⟨(some 11), none, .bin .lss (.t 10) (.t 9), [], true⟩])
 (.seq (.cond (.t 11)
 .skip
 (.exit 0))
 (.seq (.sem (.block 1 (.seq (.reg [⟨(some 12), none, .mv (.t 10), [], false⟩,
   ⟨(some 13), none, .indexA 3 (.t 8) (.t 10), [], false⟩,
   ⟨(some 14), none, .load (some 3) (.t 13), [], false⟩,
   ⟨(some 7), none, .zbox [.d (.v (.string ⟨#[]⟩)), .d (.v (.int .i64 0)), .d (.v (.int .i64 0))], [], false⟩,
   ⟨(some 6), none, .mv (.t 12), [], false⟩,
   ⟨none, none, .store 3 (.t 7) (.t 14), [], false⟩])
 (.seq (.sem (.regd [⟨(some 15), none, .mv (.t 1), [], false⟩,
   ⟨(some 16), none, .fieldA 0 (.t 7), [], false⟩,
   ⟨(some 17), none, .load none (.t 16), [1], false⟩,
   ⟨(some 18), none, .call 28 [(.t 15), (.t 17)], [0, 1, 2], true⟩,
   ⟨(some 19), none, .not (.t 18), [0, 1, 2, 3], true⟩,
   ⟨(some 20), none, .mv (.t 19), [0, 1, 2, 3, 4], true⟩,
   ⟨(some 21), (some (20, true)), .mv (.t 5), [0, 1, 2, 3, 4, 5], true⟩,
   ⟨(some 22), (some (20, true)), .bin .lss (.t 21) (kI 0), [0, 1, 2, 3, 4, 5, 6], true⟩,
   ⟨(some 23), (some (20, true)), .mv (.t 22), [0, 1, 2, 3, 4, 5, 6, 7], true⟩,
   ⟨(some 24), (some (23, false)), .fieldA 2 (.t 7), [0, 1, 2, 3, 4, 5, 6, 7, 8], false⟩,
   ⟨(some 25), (some (23, false)), .load none (.t 24), [0, 1, 2, 3, 4, 5, 6, 7, 8, 9], false⟩,
   ⟨(some 26), (some (23, false)), .mv (.t 0), [0, 1, 2, 3, 4, 5, 6, 7, 8], false⟩,
   ⟨(some 27), (some (23, false)), .mv (.t 5), [0, 1, 2, 3, 4, 5, 6, 7, 8], false⟩,
   ⟨(some 28), (some (23, false)), .indexA 3 (.t 26) (.t 27), [0, 1, 2, 3, 4, 5, 6, 7, 8, 11, 12], false⟩,
   ⟨(some 29), (some (23, false)), .fieldA 2 (.t 28), [0, 1, 2, 3, 4, 5, 6, 7, 8, 11, 12, 13], false⟩,
   ⟨(some 30), (some (23, false)), .load none (.t 29), [0, 1, 2, 3, 4, 5, 6, 7, 8, 11, 12, 13, 14], false⟩,
   ⟨(some 31), (some (23, false)), .bin .lss (.t 25) (.t 30), [0, 1, 2, 3, 4, 5, 6, 7, 8, 9, 10, 11, 12, 13, 14, 15], true⟩,
   ⟨(some 32), (some (20, true)), .pick (.t 23) (kB true) (.t 31), [0, 1, 2, 3, 4, 5, 6, 7, 8, 9, 10, 11, 12, 13, 14, 15, 16], true⟩,
   ⟨(some 33), none, .pick (.t 20) (.t 32) (kB false), [0, 1, 2, 3, 4, 5, 6, 7, 8, 9, 10, 11, 12, 13, 14, 15, 16, 17], true⟩]))
 (.cond (.t 33)
 (.reg [⟨(some 34), none, .mv (.t 6), [], false⟩,
   ⟨(some 5), none, .mv (.t 34), [], false⟩])
 .skip)))))
 (.reg [⟨(some 35), none, .bin .add (.t 10) (kI 1), [], false⟩,
   ⟨(some 10), none, .mv (.t 35), [], false⟩]))))))))
 (.seq (.reg [⟨(some 36), none, .mv (.t 5), [], false⟩,
   ⟨(some 4), none, .mv (.t 36), [], false⟩])
 .ret))))⟩
theorem a23_ok : afn Try.prog 23 = some a23.er := by kernel_rfl
theorem F23_ok {x0 : (List Image)} {x1 : (List ByteArray)} {r : Int} (h : F23 x0 x1 = some r) : CallD Try.prog 23 [.c (.d (.sl (x0.map eImage))), .c (.d (.sl (x1.map eS)))] [] (tupV [.c (.d (.v (.int .i64 r)))]) [] := by
  refine callS a23_ok (by simp [a23]) ?_
  rw [F23] at h
  simp only [a23, VW.down, Nat.reduceEqDiff, reduceCtorEq, Nat.reduceAdd, Nat.reduceLeDiff, Nat.reduceLT, EE.down]
  obtain ⟨o1, ho, h⟩ := Option.bind_eq_some_iff.1 h
  refine cutS (fun s => s = ⟨[(5, .one (.c (.d (.v (.int .i64 o1)))))], []⟩) ?_ ?_
  · have h := ho
    clear ho
    obtain ⟨_, hk, h⟩ := Option.bind_eq_some_iff.1 h
    have hk := ck_some hk
    simp only [VW.down, Nat.reduceEqDiff, reduceCtorEq, Nat.reduceAdd, Nat.reduceLeDiff, Nat.reduceLT, EE.down]
    refine bL (fun j s => ∃ (o1_1 : Nat) (o1_0 : Int), (o1_1 ≤ x0.length ∧ j = x0.length - o1_1) ∧ s = ⟨[(0, .one (.c (.d (.sl (x0.map eImage))))), (1, .one (.c (.d (.sl (x1.map eS))))), (5, .one (.c (.d (.v (.int .i64 o1_0))))), (8, .one (.c (.d (.sl (x0.map eImage))))), (9, .one (.c (.d (.v (.int .i64 ((x0.length : Int))))))), (10, .one (.c (.d (.v (.int .i64 ((o1_1 : Int)))))))], []⟩ ∧ F23_l1 x0 x1 (x0.drop o1_1) o1_1 o1_0 = some o1) (x0.length - 0) [] ⟨0, (-1), ⟨hk.1, rfl⟩, rfl, h⟩ ?_
    rintro _ _ ⟨o1_1, o1_0, ⟨hi, rfl⟩, rfl, h⟩
    simp only [VW.down, Nat.reduceEqDiff, reduceCtorEq, Nat.reduceAdd, Nat.reduceLeDiff, Nat.reduceLT, EE.down]
    refine condS (fun c2 => ?_) (fun c2 => ?_)
    · obtain ⟨xo1, hxo1, hd⟩ := countY c2
      rw [hd, F23_l1] at h
      simp only [VW.down, Nat.reduceEqDiff, reduceCtorEq, Nat.reduceAdd, Nat.reduceLeDiff, Nat.reduceLT, EE.down]
      obtain ⟨o3, ho, h⟩ := Option.bind_eq_some_iff.1 h
      refine cutS (fun s => s = ⟨[(0, .one (.c (.d (.sl (x0.map eImage))))), (1, .one (.c (.d (.sl (x1.map eS))))), (5, .one (.c (.d (.v (.int .i64 o3))))), (8, .one (.c (.d (.sl (x0.map eImage))))), (9, .one (.c (.d (.v (.int .i64 ((x0.length : Int))))))), (10, .one (.c (.d (.v (.int .i64 ((o1_1 : Int)))))))], []⟩) ?_ ?_
      · have h := ho
        clear ho
        simp only [VW.down, Nat.reduceEqDiff, reduceCtorEq, Nat.reduceAdd, Nat.reduceLeDiff, Nat.reduceLT, EE.down]
        refine t_idxF (enc := eImage) (xs := x0) rfl rfl hxo1 rfl ?_
        simp only [VW.down, Nat.reduceEqDiff, reduceCtorEq, Nat.reduceAdd, Nat.reduceLeDiff, Nat.reduceLT, EE.down]
        obtain ⟨o4, ho, h⟩ := Option.bind_eq_some_iff.1 h
        refine cutS (fun s => s = ⟨[(0, .one (.c (.d (.sl (x0.map eImage))))), (1, .one (.c (.d (.sl (x1.map eS))))), (5, .one (.c (.d (.v (.int .i64 o1_0))))), (6, .one (.c (.d (.v (.int .i64 ((o1_1 : Int))))))), (8, .one (.c (.d (.sl (x0.map eImage))))), (9, .one (.c (.d (.v (.int .i64 ((x0.length : Int))))))), (10, .one (.c (.d (.v (.int .i64 ((o1_1 : Int))))))), (33, .one (.c (.d (.v (.bool o4)))))], []⟩) ?_ ?_
        · have h := ho
          clear ho
          simp only [VW.down, Nat.reduceEqDiff, reduceCtorEq, Nat.reduceAdd, Nat.reduceLeDiff, Nat.reduceLT, EE.down]
          obtain ⟨t5, ht5, h⟩ := Option.bind_eq_some_iff.1 h
          refine callX_n [] (F28_ok ht5) ?_ ?_ ?_ ?_ ?_ ?_
          · first | rfl | simp [nrmA, nrmC, nrm, A1.ren, C.ren, rn, List.length_set]
          · simp [liveAll, A1.live, C.live]
          · rfl
          · decide
          · exact trivial
          simp only [VW.down, Nat.reduceEqDiff, reduceCtorEq, Nat.reduceAdd, Nat.reduceLeDiff, Nat.reduceLT, EE.down]
          refine guardDB (fun g6 => ?_) (fun g6 => ?_)
          · have h := (if_pos g6).symm.trans h
            simp only [VW.down, Nat.reduceEqDiff, reduceCtorEq, Nat.reduceAdd, Nat.reduceLeDiff, Nat.reduceLT, EE.down]
            refine guardD (fun g7 => ?_) (fun g7 => ?_)
            · have h := (if_pos g7).symm.trans h
              simp only [VW.down, Nat.reduceEqDiff, reduceCtorEq, Nat.reduceAdd, Nat.reduceLeDiff, Nat.reduceLT, EE.down]
              obtain rfl := Option.some.inj h
              exact eM [] rfl
            · have h := (if_neg g7).symm.trans h
              simp only [VW.down, Nat.reduceEqDiff, reduceCtorEq, Nat.reduceAdd, Nat.reduceLeDiff, Nat.reduceLT, EE.down]
              obtain ⟨y8, hy8, h⟩ := Option.bind_eq_some_iff.1 h
              refine t_idxF (enc := eImage) (xs := x0) rfl rfl hy8 rfl ?_
              simp only [VW.down, Nat.reduceEqDiff, reduceCtorEq, Nat.reduceAdd, Nat.reduceLeDiff, Nat.reduceLT, EE.down]
              obtain rfl := Option.some.inj h
              exact eM [] rfl
          · have h := (if_neg g6).symm.trans h
            simp only [VW.down, Nat.reduceEqDiff, reduceCtorEq, Nat.reduceAdd, Nat.reduceLeDiff, Nat.reduceLT, EE.down]
            obtain rfl := Option.some.inj h
            exact eM [] rfl
        · rintro _ rfl
          clear ho
          simp only [VW.down, Nat.reduceEqDiff, reduceCtorEq, Nat.reduceAdd, Nat.reduceLeDiff, Nat.reduceLT, EE.down]
          refine condB (fun c9 => ?_) (fun c9 => ?_)
          · have h := (if_pos c9).symm.trans h
            simp only [VW.down, Nat.reduceEqDiff, reduceCtorEq, Nat.reduceAdd, Nat.reduceLeDiff, Nat.reduceLT, EE.down]
            obtain rfl := Option.some.inj h
            exact eM [] rfl
          · have h := (if_neg c9).symm.trans h
            simp only [VW.down, Nat.reduceEqDiff, reduceCtorEq, Nat.reduceAdd, Nat.reduceLeDiff, Nat.reduceLT, EE.down]
            obtain rfl := Option.some.inj h
            exact eM [] rfl
      · rintro _ rfl
        clear ho
        simp only [VW.down, Nat.reduceEqDiff, reduceCtorEq, Nat.reduceAdd, Nat.reduceLeDiff, Nat.reduceLT, EE.down]
        rw [wrapN (by omega)]
        exact eL' (x0.length - (o1_1 + 1)) [] ⟨o1_1 + 1, o3, ⟨by omega, rfl⟩, rfl, h⟩ (by omega)
    · rw [countN c2, F23_l1] at h
      simp only [VW.down, Nat.reduceEqDiff, reduceCtorEq, Nat.reduceAdd, Nat.reduceLeDiff, Nat.reduceLT, EE.down]
      obtain rfl := Option.some.inj h
      exact eM [] rfl
  · rintro _ rfl
    clear ho
    simp only [VW.down, Nat.reduceEqDiff, reduceCtorEq, Nat.reduceAdd, Nat.reduceLeDiff, Nat.reduceLT, EE.down]
    obtain rfl := Option.some.inj h
    exact eF []

/- slices.Delete[[]orchestrator/api.Image,orchestrator/api.Image] -/
theorem a24_ok : afn Try.prog 24 = some (deleteA 3 32 [.v (.string ⟨#[]⟩), .v (.int .i64 0), .v (.int .i64 0)]) := by kernel_rfl
theorem F24_ok {x0 r : List Image} {i j : Int} {e0 : Nat} (h : delI x0 i j = some r) : CallD Try.prog 24 [.c (.own 0 e0 0 x0.length none), aI i, aI j] [some (.arr e0 3 (x0.map eImage))] (tupV [.c (.own 0 (e0 + 1) 0 r.length none)]) [some (.arr (e0 + 1) 3 (r.map eImage))] := L_delete a24_ok (fun _ => rfl) h

/- orchestrator/image.Collect -/
def F12_l4 (x1 : (List ByteArray)) (x2 : Int) (x3 : Int) (x4 : Int) : Nat → (List Image) → (List ByteArray) → Option ((List Image) × (List ByteArray))
  | 0, _, _ => none
  | k + 1, o4_0, o4_1 => (F22 o4_0).bind fun t5 => (if (IntKind.i64.wrap (((if (if 100 < (if x3 < 0 then 0 else x3) then 100 else (if x3 < 0 then 0 else x3)) < (if x4 < 0 then 0 else x4) then (if 100 < (if x3 < 0 then 0 else x3) then 100 else (if x3 < 0 then 0 else x3)) else (if x4 < 0 then 0 else x4))) * ((if 1000000000000000 < (if x2 < 0 then 0 else x2) then 1000000000000000 else (if x2 < 0 then 0 else x2))))) < (IntKind.i64.wrap (t5 * 100)) then (F23 o4_0 x1).bind fun t7 => (if t7 < 0 then some ((o4_0, o4_1)) else (rdI o4_0 t7).bind fun y9 => (apI o4_1 ([y9.Name])).bind fun a10 => (delI o4_0 t7 ((IntKind.i64.wrap (t7 + 1)))).bind fun t11 => F12_l4 x1 x2 x3 x4 k t11 a10) else some ((o4_0, o4_1)))
def F12 (x0 : (List Image)) (x1 : (List ByteArray)) (x2 : Int) (x3 : Int) (x4 : Int) : Option ((List Image) × (List ByteArray)) := (cloneI x0).bind fun t1 => (F22 t1).bind fun t2 => (if (IntKind.i64.wrap (t2 * 100)) ≤ (IntKind.i64.wrap (((if 100 < (if x3 < 0 then 0 else x3) then 100 else (if x3 < 0 then 0 else x3))) * ((if 1000000000000000 < (if x2 < 0 then 0 else x2) then 1000000000000000 else (if x2 < 0 then 0 else x2))))) then some ((t1, [])) else ((F12_l4 x1 x2 x3 x4 1099511627776 t1 ([])).bind fun o4 => some ((o4.1, o4.2))))
def a12 : AFn := ⟨65, [(.tmp 10), (.tmp 11)],
 (.seq (.reg [⟨(some 10), none, .mv kN, [], false⟩,
   ⟨(some 11), none, .mv kN, [], false⟩])
 (.seq (.reg [⟨(some 18), none, .mv (.t 2), [], false⟩,
   ⟨(some 19), none, .max (.t 18) (kI 0), [], false⟩,
   ⟨(some 20), none, .min (.t 19) (kI 1000000000000000), [], false⟩,
   ⟨(some 12), none, .mv (.t 20), [], false⟩])
 (.seq (.reg [⟨(some 21), none, .mv (.t 3), [], false⟩,
   ⟨(some 22), none, .max (.t 21) (kI 0), [], false⟩,
   ⟨(some 23), none, .min (.t 22) (kI 100), [], false⟩,
   ⟨(some 13), none, .mv (.t 23), [], false⟩])
 (.seq (.reg [⟨(some 24), none, .mv (.t 4), [], false⟩,
   ⟨(some 25), none, .max (.t 24) (kI 0), [], false⟩,
   ⟨(some 26), none, .mv (.t 13), [], false⟩,
   ⟨(some 27), none, .min (.t 25) (.t 26), [], false⟩,
   ⟨(some 14), none, .mv (.t 27), [], false⟩])
 (.seq (.reg [⟨(some 28), none, .mv (.t 0), [], false⟩,
   ⟨(some 29), none, .call 17 [(.t 28)], [], false⟩,
   ⟨(some 15), none, .mv (.t 29), [], false⟩])
 (.seq (.reg [⟨(some 16), none, .mv kN, [], true⟩])
 (.seq (.seq (.reg [⟨(some 30), none, .mv (.t 15), [], false⟩,
   ⟨(some 31), none, .call 22 [(.t 30)], [], false⟩,
   ⟨(some 32), none, .bin .mul (.t 31) (kI 100), [], false⟩,
   ⟨(some 33), none, .mv (.t 13), [], false⟩,
   ⟨(some 34), none, .mv (.t 12), [], false⟩,
   ⟨(some 35), none, .bin .mul (.t 33) (.t 34), [], false⟩,
   ⟨(some 36), none, .bin .leq (.t 32) (.t 35), [], false⟩])
 (.cond (.t 36)
 (.seq (.reg [⟨(some 37), none, .mv (.t 15), [], false⟩,
   ⟨(some 10), none, .mv (.t 37), [], false⟩,
   ⟨(some 11), none, .mv kN, [], false⟩])
 .ret)
 .skip))
 (.seq (.sem (.block 0 (.loop (.seq (.seq (.reg [⟨(some 38), none, .mv (.t 15), [], false⟩,
   ⟨(some 39), none, .call 22 [(.t 38)], [], false⟩,
   ⟨(some 40), none, .bin .mul (.t 39) (kI 100), [], false⟩,
   ⟨(some 41), none, .mv (.t 14), [], false⟩,
   ⟨(some 42), none, .mv (.t 12), [], false⟩,
   ⟨(some 43), none, .bin .mul (.t 41) (.t 42), [], false⟩,
   ⟨(some 44), none, .bin .gtr (.t 40) (.t 43), [], false⟩])
 (.cond (.t 44)
 .skip
 (.exit 0)))
 (.block 1 (.seq (.reg [⟨(some 45), none, .mv (.t 15), [], false⟩,
   ⟨(some 46), none, .mv (.t 1), [], false⟩,
   ⟨(some 47), none, .call 23 [(.t 45), (.t 46)], [], false⟩,
   ⟨(some 17), none, .mv (.t 47), [], false⟩])
 (.seq (.seq (.reg [⟨(some 48), none, .mv (.t 17), [], false⟩,
   ⟨(some 49), none, .bin .lss (.t 48) (kI 0), [], false⟩])
 (.cond (.t 49)
 (.exit 0)
 .skip))
 (.seq (.reg [⟨(some 50), none, .mv (.t 16), [], false⟩,
   ⟨(some 51), none, .mv (.t 15), [], false⟩,
   ⟨(some 52), none, .mv (.t 17), [], false⟩,
   ⟨(some 53), none, .indexA 3 (.t 51) (.t 52), [], false⟩,
   ⟨(some 54), none, .fieldA 0 (.t 53), [], false⟩,
   ⟨(some 55), none, .load none (.t 54), [], false⟩,
   ⟨(some 56), none, .bslice 1 [(.t 55)], [], false⟩,
   ⟨(some 57), none, .app 1 16 (.t 50) (.t 56), [], false⟩,
   ⟨(some 16), none, .mv (.t 57), [], false⟩])
 (.reg [⟨(some 58), none, .mv (.t 15), [], false⟩,
   ⟨(some 59), none, .mv (.t 17), [], false⟩,
   ⟨(some 60), none, .mv (.t 17), [], false⟩,
   ⟨(some 61), none, .bin .add (.t 60) (kI 1), [], false⟩,
   ⟨(some 62), none, .call 24 [(.t 58), (.t 59), (.t 61)], [], false⟩,
   ⟨(some 15), none, .mv (.t 62), [], false⟩])))))))))
 (.seq (.reg [⟨(some 63), none, .mv (.t 15), [], false⟩,
   ⟨(some 64), none, .mv (.t 16), [], false⟩,
   ⟨(some 10), none, .mv (.t 63), [], false⟩,
   ⟨(some 11), none, .mv (.t 64), [], false⟩])
 .ret)))))))))⟩
theorem a12_ok : afn Try.prog 12 = some a12.er := by kernel_rfl
theorem F12_ok {x0 : (List Image)} {x1 : (List ByteArray)} {x2 : Int} {x3 : Int} {x4 : Int} {r : (List Image) × (List ByteArray)} (h : F12 x0 x1 x2 x3 x4 = some r) : CallD Try.prog 12 [.c (.d (.sl (x0.map eImage))), .c (.d (.sl (x1.map eS))), .c (.d (.v (.int .i64 x2))), .c (.d (.v (.int .i64 x3))), .c (.d (.v (.int .i64 x4)))] [] (tupV [.c (.own 0 0 0 (r.1.length) none), .c (.own 1 0 0 (r.2.length) none)]) [some (.arr 0 3 (r.1.map eImage)), some (.arr 0 1 (r.2.map eS))] := by
  refine callS a12_ok (by simp [a12]) ?_
  rw [F12] at h
  simp only [a12, VW.down, Nat.reduceEqDiff, reduceCtorEq, Nat.reduceAdd, Nat.reduceLeDiff, Nat.reduceLT, EE.down]
  obtain ⟨t1, ht1, h⟩ := Option.bind_eq_some_iff.1 h
  refine callX_n [] (F17_ok ht1) ?_ ?_ ?_ ?_ ?_ ?_
  · first | rfl | simp [nrmA, nrmC, nrm, A1.ren, C.ren, rn, List.length_set]
  · simp [liveAll, A1.live, C.live]
  · rfl
  · decide
  · exact trivial
  simp only [VW.down, Nat.reduceEqDiff, reduceCtorEq, Nat.reduceAdd, Nat.reduceLeDiff, Nat.reduceLT, EE.down]
  obtain ⟨t2, ht2, h⟩ := Option.bind_eq_some_iff.1 h
  refine callX_bor (F22_ok ht2) (by simp only [borAs, bors, hp, List.getElem?_cons_zero, List.getElem?_cons_succ, Option.join_some, List.drop_zero, bor_full', true_and, Nat.zero_add, List.length_map, Nat.le_refl, nrm, List.length_cons, List.length_nil, Nat.reduceAdd, Nat.reduceLeDiff, List.take_succ_cons, List.take_zero, List.take_nil, List.map_cons, List.map_nil, List.length_set, EE.down]) rfl ?_
  simp only [VW.down, Nat.reduceEqDiff, reduceCtorEq, Nat.reduceAdd, Nat.reduceLeDiff, Nat.reduceLT, EE.down]
  refine condS (fun c3 => ?_) (fun c3 => ?_)
  · have h := (if_pos c3).symm.trans h
    simp only [VW.down, Nat.reduceEqDiff, reduceCtorEq, Nat.reduceAdd, Nat.reduceLeDiff, Nat.reduceLT, EE.down]
    obtain rfl := Option.some.inj h
    exact eF [some 0, none]
  · have h := (if_neg c3).symm.trans h
    simp only [VW.down, Nat.reduceEqDiff, reduceCtorEq, Nat.reduceAdd, Nat.reduceLeDiff, Nat.reduceLT, EE.down]
    obtain ⟨o4, ho, h⟩ := Option.bind_eq_some_iff.1 h
    refine cutS (fun s => s = ⟨[(15, .one (.c (.own 0 0 0 (o4.1.length) none))), (16, .one (.c (.own 1 0 0 (o4.2.length) none)))], [some (.arr 0 3 (o4.1.map eImage)), some (.arr 0 1 (o4.2.map eS))]⟩) ?_ ?_
    · have h := ho
      clear ho
      simp only [VW.down, Nat.reduceEqDiff, reduceCtorEq, Nat.reduceAdd, Nat.reduceLeDiff, Nat.reduceLT, EE.down]
      refine bL (fun j s => ∃ (o4_0 : List Image) (o4_1 : List ByteArray), s = ⟨[(1, .one (.c (.d (.sl (x1.map eS))))), (12, .one (.c (.d (.v (.int .i64 ((if 1000000000000000 < (if x2 < 0 then 0 else x2) then 1000000000000000 else (if x2 < 0 then 0 else x2)))))))), (14, .one (.c (.d (.v (.int .i64 ((if (if 100 < (if x3 < 0 then 0 else x3) then 100 else (if x3 < 0 then 0 else x3)) < (if x4 < 0 then 0 else x4) then (if 100 < (if x3 < 0 then 0 else x3) then 100 else (if x3 < 0 then 0 else x3)) else (if x4 < 0 then 0 else x4)))))))), (15, .one (.c (.own 0 0 0 (o4_0.length) none))), (16, .one (.c (.own 1 0 0 (o4_1.length) none)))], [some (.arr 0 3 (o4_0.map eImage)), some (.arr 0 1 (o4_1.map eS))]⟩ ∧ F12_l4 x1 x2 x3 x4 j o4_0 o4_1 = some o4) 1099511627776 [some 0, none] ⟨t1, [], rfl, h⟩ ?_
      rintro j _ ⟨o4_0, o4_1, rfl, h⟩
      cases j with
      | zero => cases (show (none : Option _) = some _ from h)
      | succ j =>
        rw [F12_l4] at h
        simp only [VW.down, Nat.reduceEqDiff, reduceCtorEq, Nat.reduceAdd, Nat.reduceLeDiff, Nat.reduceLT, EE.down]
        obtain ⟨t5, ht5, h⟩ := Option.bind_eq_some_iff.1 h
        refine callX_bor (F22_ok ht5) (by simp only [borAs, bors, hp, List.getElem?_cons_zero, List.getElem?_cons_succ, Option.join_some, List.drop_zero, bor_full', true_and, Nat.zero_add, List.length_map, Nat.le_refl, nrm, List.length_cons, List.length_nil, Nat.reduceAdd, Nat.reduceLeDiff, List.take_succ_cons, List.take_zero, List.take_nil, List.map_cons, List.map_nil, List.length_set, EE.down]) rfl ?_
        simp only [VW.down, Nat.reduceEqDiff, reduceCtorEq, Nat.reduceAdd, Nat.reduceLeDiff, Nat.reduceLT, EE.down]
        refine condS (fun c6 => ?_) (fun c6 => ?_)
        · have h := (if_pos c6).symm.trans h
          simp only [VW.down, Nat.reduceEqDiff, reduceCtorEq, Nat.reduceAdd, Nat.reduceLeDiff, Nat.reduceLT, EE.down]
          obtain ⟨t7, ht7, h⟩ := Option.bind_eq_some_iff.1 h
          refine callX_bor (F23_ok ht7) (by simp only [borAs, bors, hp, List.getElem?_cons_zero, List.getElem?_cons_succ, Option.join_some, List.drop_zero, bor_full', true_and, Nat.zero_add, List.length_map, Nat.le_refl, nrm, List.length_cons, List.length_nil, Nat.reduceAdd, Nat.reduceLeDiff, List.take_succ_cons, List.take_zero, List.take_nil, List.map_cons, List.map_nil, List.length_set, EE.down]) rfl ?_
          simp only [VW.down, Nat.reduceEqDiff, reduceCtorEq, Nat.reduceAdd, Nat.reduceLeDiff, Nat.reduceLT, EE.down]
          refine condS (fun c8 => ?_) (fun c8 => ?_)
          · have h := (if_pos c8).symm.trans h
            simp only [VW.down, Nat.reduceEqDiff, reduceCtorEq, Nat.reduceAdd, Nat.reduceLeDiff, Nat.reduceLT, EE.down]
            obtain rfl := Option.some.inj h
            exact eM [some 0, some 1] rfl
          · have h := (if_neg c8).symm.trans h
            simp only [VW.down, Nat.reduceEqDiff, reduceCtorEq, Nat.reduceAdd, Nat.reduceLeDiff, Nat.reduceLT, EE.down]
            obtain ⟨y9, hy9, h⟩ := Option.bind_eq_some_iff.1 h
            refine t_idxO (enc := eImage) (xs := o4_0) rfl rfl rfl (by first | rfl | simp only [List.length_set]) hy9 ?_
            simp only [VW.down, Nat.reduceEqDiff, reduceCtorEq, Nat.reduceAdd, Nat.reduceLeDiff, Nat.reduceLT, EE.down]
            refine LdRow.rd (rdI_some hy9).2.1 ?_
            simp only [VW.down, Nat.reduceEqDiff, reduceCtorEq, Nat.reduceAdd, Nat.reduceLeDiff, Nat.reduceLT, EE.down]
            refine t_bslice (enc := eS) (ys := [y9.Name]) rfl rfl (by simp [A1.cells]) rfl ?_
            simp only [VW.down, Nat.reduceEqDiff, reduceCtorEq, Nat.reduceAdd, Nat.reduceLeDiff, Nat.reduceLT, EE.down]
            obtain ⟨a10, ha10, h⟩ := Option.bind_eq_some_iff.1 h
            refine t_app (enc := eS) (xs := o4_1) rfl rfl (by first | rfl | simp only [List.length_set]) rfl (rows_full (enc := eS) (by first | rfl | simp only [List.length_set]) rfl) ha10 ?_
            simp only [VW.down, Nat.reduceEqDiff, reduceCtorEq, Nat.reduceAdd, Nat.reduceLeDiff, Nat.reduceLT, EE.down]
            obtain ⟨t11, ht11, h⟩ := Option.bind_eq_some_iff.1 h
            refine callX_n [0] (F24_ok (e0 := 0) ht11) ?_ ?_ ?_ ?_ ?_ ?_
            · first | rfl | simp [nrmA, nrmC, nrm, A1.ren, C.ren, rn, List.length_set]
            · simp [liveAll, A1.live, C.live, hp]
            · rfl
            · decide
            · exact ⟨⟨rfl, trivial⟩, trivial⟩
            simp only [VW.down, Nat.reduceEqDiff, reduceCtorEq, Nat.reduceAdd, Nat.reduceLeDiff, Nat.reduceLT, EE.down]
            exact eL' j [some 0, some 1] ⟨t11, a10, rfl, h⟩ (Nat.lt_succ_self _)
        · have h := (if_neg c6).symm.trans h
          simp only [VW.down, Nat.reduceEqDiff, reduceCtorEq, Nat.reduceAdd, Nat.reduceLeDiff, Nat.reduceLT, EE.down]
          obtain rfl := Option.some.inj h
          exact eM [some 0, some 1] rfl
    · rintro _ rfl
      clear ho
      simp only [VW.down, Nat.reduceEqDiff, reduceCtorEq, Nat.reduceAdd, Nat.reduceLeDiff, Nat.reduceLT, EE.down]
      obtain rfl := Option.some.inj h
      exact eF [some 0, some 1]

/- orchestrator/image.Use$1 -/
def F19 (x0 : Image) (b0 : ByteArray) : Option (Unit) := some (())
def a19 : AFn := ⟨8, [(.tmp 3)],
 (.seq (.reg [⟨(some 2), none, .box (.t 0), [], false⟩,
   ⟨(some 3), none, .mv (kB false), [], false⟩])
 (.seq (.reg [⟨(some 4), none, .fieldA 0 (.t 2), [], false⟩,
   ⟨(some 5), none, .load none (.t 4), [], false⟩,
   ⟨(some 6), none, .load none (.t 1), [], false⟩,
   ⟨(some 7), none, .bin .geq (.t 5) (.t 6), [], false⟩,
   ⟨(some 3), none, .mv (.t 7), [], false⟩])
 .ret))⟩
theorem a19_ok : afn Try.prog 19 = some a19.er := by kernel_rfl
theorem F19_ok {x0 : Image} {b0 : ByteArray} {r : Unit} (h : F19 x0 b0 = some r) : CallD Try.prog 19 [.agg [.d (.v (.string x0.Name)), .d (.v (.int .i64 x0.Size)), .d (.v (.int .i64 x0.Used))], .c (.pt 0 0)] [some (.box [.d (.v (.string b0))])] (tupV [.c (.d (.v (.bool (nb (Op.bytesLess x0.Name.toList b0.toList)))))]) [some (.box [.d (.v (.string b0))])] := by
  refine callS a19_ok (by simp [a19]) ?_
  rw [F19] at h
  simp only [a19, VW.down, Nat.reduceEqDiff, reduceCtorEq, Nat.reduceAdd, Nat.reduceLeDiff, Nat.reduceLT, EE.down]
  obtain rfl := Option.some.inj h
  exact eF [some 0]

/- slices.IndexFunc[[]orchestrator/api.Image,orchestrator/api.Image] -/
def F18_l1 (b1 : ByteArray) (x0 : (List Image)) : List Image → Nat → Option ((Int) ⊕ (Unit))
  | [], o1_0 => some (Sum.inr (()))
  | xo1 :: xs, o1_0 => (rdI x0 ((o1_0 : Int))).bind fun y3 => (F19 y3 b1).bind fun t4 => (if (nb (Op.bytesLess y3.Name.toList b1.toList)) = true then (some ((o1_0 : Int))).map Sum.inl else F18_l1 b1 x0 xs (o1_0 + 1))
def F18 (x0 : (List Image)) (b1 : ByteArray) : Option (Int) := (((ck (0 ≤ x0.length ∧ x0.length ≤ 4294967290)).bind fun u6 => F18_l1 b1 x0 x0 0).bind fun o1 => match o1 with | Sum.inl f => some f | Sum.inr po1 => some ((-1)))
def a18 : AFn := ⟨19, [(.tmp 4)],
 (.seq (.reg [⟨(some 4), none, .mv (kI 0), [], true⟩])
 (.seq (.seq (.reg [⟨(some 6), none, .mv (.t 0), [], false⟩,
   ⟨(some 7), none, .len (.t 6), [], false⟩,
   ⟨(some 8), none, .mv (kI 0), [], false⟩])
 (.sem (.block 0 (.loop (.seq (.reg [⟨(some 9), none, .bin .lss (.t 8) (.t 7), [], true⟩])
 (.seq (.cond (.t 9)
 .skip
 (.exit 0))
 (.seq (.block 1 (.seq (.reg [⟨(some 10), none, .mv (.t 8), [], false⟩,
   ⟨(some 5), none, .mv (.t 10), [], false⟩])
 (.seq (.reg [⟨(some 11), none, .mv (.t 1), [], false⟩,
   ⟨(some 12), none, .mv (.t 0), [], false⟩,
   ⟨(some 13), none, .mv (.t 5), [], false⟩,
   ⟨(some 14), none, .indexA 3 (.t 12) (.t 13), [], false⟩,
   ⟨(some 15), none, .load (some 3) (.t 14), [], false⟩,
   ⟨(some 16), none, .callv (.t 11) [(.t 15)], [], false⟩])
 (.cond (.t 16)
 (.seq (.reg [⟨(some 17), none, .mv (.t 5), [], false⟩,
   ⟨(some 4), none, .mv (.t 17), [], false⟩])
 .ret)
 .skip))))
 (.reg [⟨(some 18), none, .bin .add (.t 8) (kI 1), [], false⟩,
   ⟨(some 8), none, .mv (.t 18), [], false⟩]))))))))
 (.seq (.reg [⟨(some 4), none, .mv (kI (-1)), [], true⟩])
 .ret)))⟩
theorem a18_ok : afn Try.prog 18 = some a18.er := by kernel_rfl
theorem F18_ok {x0 : (List Image)} {b1 : ByteArray} {r : Int} {e0 : Nat} (h : F18 x0 b1 = some r) : CallD Try.prog 18 [.c (.own 0 e0 0 (x0.length) none), .c (.fn 19 [(1, 0)])] [some (.arr e0 3 (x0.map eImage)), some (.box [.d (.v (.string b1))])] (tupV [.c (.d (.v (.int .i64 r)))]) [some (.arr e0 3 (x0.map eImage)), some (.box [.d (.v (.string b1))])] := by
  refine callS a18_ok (by simp [a18]) ?_
  rw [F18] at h
  simp only [a18, VW.down, Nat.reduceEqDiff, reduceCtorEq, Nat.reduceAdd, Nat.reduceLeDiff, Nat.reduceLT, EE.down]
  obtain ⟨o1, ho, h⟩ := Option.bind_eq_some_iff.1 h
  refine cutS (fun s => ∃ po1, o1 = Sum.inr po1 ∧ s = ⟨[], [some (.arr e0 3 (x0.map eImage)), some (.box [.d (.v (.string b1))])]⟩) ?_ ?_
  · have h0o1 := h
    have h := ho
    clear ho
    obtain ⟨_, hk, h⟩ := Option.bind_eq_some_iff.1 h
    have hk := ck_some hk
    simp only [VW.down, Nat.reduceEqDiff, reduceCtorEq, Nat.reduceAdd, Nat.reduceLeDiff, Nat.reduceLT, EE.down]
    refine bL (fun j s => ∃ (o1_0 : Nat), (o1_0 ≤ x0.length ∧ j = x0.length - o1_0) ∧ s = ⟨[(0, .one (.c (.own 0 e0 0 (x0.length) none))), (1, .one (.c (.fn 19 [(1, 0)]))), (7, .one (.c (.d (.v (.int .i64 ((x0.length : Int))))))), (8, .one (.c (.d (.v (.int .i64 ((o1_0 : Int)))))))], [some (.arr e0 3 (x0.map eImage)), some (.box [.d (.v (.string b1))])]⟩ ∧ F18_l1 b1 x0 (x0.drop o1_0) o1_0 = some o1) (x0.length - 0) [some 0, some 1] ⟨0, ⟨hk.1, rfl⟩, rfl, h⟩ ?_
    rintro _ _ ⟨o1_0, ⟨hi, rfl⟩, rfl, h⟩
    simp only [VW.down, Nat.reduceEqDiff, reduceCtorEq, Nat.reduceAdd, Nat.reduceLeDiff, Nat.reduceLT, EE.down]
    refine condS (fun c2 => ?_) (fun c2 => ?_)
    · obtain ⟨xo1, hxo1, hd⟩ := countY c2
      rw [hd, F18_l1] at h
      simp only [VW.down, Nat.reduceEqDiff, reduceCtorEq, Nat.reduceAdd, Nat.reduceLeDiff, Nat.reduceLT, EE.down]
      obtain ⟨y3, hy3, h⟩ := Option.bind_eq_some_iff.1 h
      refine t_idxO (enc := eImage) (xs := x0) rfl rfl rfl (by first | rfl | simp only [List.length_set]) hy3 ?_
      simp only [VW.down, Nat.reduceEqDiff, reduceCtorEq, Nat.reduceAdd, Nat.reduceLeDiff, Nat.reduceLT, EE.down]
      refine LdRow.rd (rdI_some hy3).2.1 ?_
      simp only [VW.down, Nat.reduceEqDiff, reduceCtorEq, Nat.reduceAdd, Nat.reduceLeDiff, Nat.reduceLT, EE.down]
      obtain ⟨t4, ht4, h⟩ := Option.bind_eq_some_iff.1 h
      refine callX_n [1] (F19_ok ht4) ?_ ?_ ?_ ?_ ?_ ?_
      · first | rfl | simp [nrmA, nrmC, nrm, A1.ren, C.ren, rn, List.length_set]
      · simp [liveAll, A1.live, C.live, hp]
      · rfl
      · decide
      · exact ⟨⟨rfl, by simp [Blk.live, C.live, hp]⟩, trivial⟩
      simp only [VW.down, Nat.reduceEqDiff, reduceCtorEq, Nat.reduceAdd, Nat.reduceLeDiff, Nat.reduceLT, EE.down]
      refine condB (fun c5 => ?_) (fun c5 => ?_)
      · have h := (if_pos c5).symm.trans h
        simp only [VW.down, Nat.reduceEqDiff, reduceCtorEq, Nat.reduceAdd, Nat.reduceLeDiff, Nat.reduceLT, EE.down]
        obtain ⟨fh0o1, hfh0o1, rfl⟩ := Option.map_eq_some_iff.1 h
        have h := hfh0o1.trans h0o1
        obtain rfl := Option.some.inj h
        exact eF [some 0, some 1]
      · have h := (if_neg c5).symm.trans h
        simp only [VW.down, Nat.reduceEqDiff, reduceCtorEq, Nat.reduceAdd, Nat.reduceLeDiff, Nat.reduceLT, EE.down]
        rw [wrapN (by omega)]
        exact eL' (x0.length - (o1_0 + 1)) [some 0, some 1] ⟨o1_0 + 1, ⟨by omega, rfl⟩, rfl, h⟩ (by omega)
    · rw [countN c2, F18_l1] at h
      simp only [VW.down, Nat.reduceEqDiff, reduceCtorEq, Nat.reduceAdd, Nat.reduceLeDiff, Nat.reduceLT, EE.down]
      obtain rfl := Option.some.inj h
      exact eM [some 0, some 1] ⟨_, rfl, rfl⟩
  · rintro _ ⟨po1, rfl, rfl⟩
    clear ho
    dsimp only at h
    simp only [VW.down, Nat.reduceEqDiff, reduceCtorEq, Nat.reduceAdd, Nat.reduceLeDiff, Nat.reduceLT, EE.down]
    obtain rfl := Option.some.inj h
    exact eF [some 0, some 1]

/- slices.overlaps[orchestrator/api.Image] -/
noncomputable def fn26 : Func := (Try.prog.funcs[26]?).getD default
theorem fn26_ok : Try.prog.funcs[26]? = some fn26 := by kernel_rfl
theorem ov26 (e0 e1 o0 o1 l0 l1 : Nat) (c0 c1 : Option Nat) (r0 r1 : List (List D)) :
    CallD Try.prog 26 [.c (.own 0 e0 o0 l0 c0), .c (.own 1 e1 o1 l1 c1)] [some (.arr e0 3 r0), some (.arr e1 3 r1)] (.one (aB false)) [some (.arr e0 3 r0), some (.arr e1 3 r1)] :=
  ovl_callD (tS := 22) (tT := 4) (e := 34) (ps := #[22, 22]) (rs := #[4]) fn26_ok (by kernel_rfl) (by kernel_rfl) (by kernel_rfl) (by kernel_rfl) rfl rfl (by kernel_rfl) (by kernel_rfl) e0 e1 o0 o1 l0 l1 c0 c1 r0 r1

/- slices.Insert[[]orchestrator/api.Image,orchestrator/api.Image] -/
theorem a20_ok : afn Try.prog 20 = some (insertA 3 32 [.v (.string ⟨#[]⟩), .v (.int .i64 0), .v (.int .i64 0)] 26 27) := by kernel_rfl
theorem F20_ok {x0 r : List Image} {i : Int} {x : Image} {e0 e1 : Nat} (h : insI x0 i x = some r) : CallD Try.prog 20 [.c (.own 0 e0 0 x0.length none), aI i, .c (.own 1 e1 0 [x].length none)] [some (.arr e0 3 (x0.map eImage)), some (.arr e1 3 ([x].map eImage))] (tupV [.c (.own 0 (e0 + 1) 0 r.length none)]) [some (.arr (e0 + 1) 3 (r.map eImage)), some (.arr e1 3 ([x].map eImage))] := L_insert a20_ok ov26 (fun _ => rfl) h

/- orchestrator/image.Use -/
def F9 (x0 : (List Image)) (x1 : ByteArray) (x2 : Int) (x3 : Int) : Option ((List Image)) := (cloneI x0).bind fun t1 => (F18 t1 x1).bind fun t2 => (((if 0 ≤ t2 then (rdI t1 t2).bind fun y5 => some (decide (y5.Name = x1)) else some false)).bind fun o3 => (if o3 = true then (rdI t1 t2).bind fun y7 => (rdI t1 t2).bind fun y8 => some ((t1.set t2.toNat ((⟨x1, (if 1000000000000000 < (if x2 < 0 then 0 else x2) then 1000000000000000 else (if x2 < 0 then 0 else x2)), (if (if 1000000000000 < (if x3 < 0 then 0 else x3) then 1000000000000 else (if x3 < 0 then 0 else x3)) < y7.Used then y7.Used else (if 1000000000000 < (if x3 < 0 then 0 else x3) then 1000000000000 else (if x3 < 0 then 0 else x3)))⟩ : Image)))) else (if 64 ≤ (t1.length : Int) then some t1 else (if t2 < 0 then (apI t1 ([(⟨x1, (if 1000000000000000 < (if x2 < 0 then 0 else x2) then 1000000000000000 else (if x2 < 0 then 0 else x2)), (if 1000000000000 < (if x3 < 0 then 0 else x3) then 1000000000000 else (if x3 < 0 then 0 else x3))⟩ : Image)])).bind fun a11 => some a11 else (insI t1 t2 ((⟨x1, (if 1000000000000000 < (if x2 < 0 then 0 else x2) then 1000000000000000 else (if x2 < 0 then 0 else x2)), (if 1000000000000 < (if x3 < 0 then 0 else x3) then 1000000000000 else (if x3 < 0 then 0 else x3))⟩ : Image))).bind fun t12 => some t12))))
def a9 : AFn := ⟨67, [(.tmp 8)],
 (.seq (.reg [⟨(some 5), none, .box (.t 1), [], false⟩,
   ⟨(some 8), none, .mv kN, [], false⟩])
 (.seq (.reg [⟨(some 12), none, .mv (.t 0), [], false⟩,
   ⟨(some 13), none, .call 17 [(.t 12)], [], false⟩,
   ⟨(some 9), none, .mv (.t 13), [], false⟩])
 (.seq (.reg [⟨(some 14), none, .load none (.t 5), [], false⟩,
   ⟨(some 15), none, .mv (.t 2), [], false⟩,
   ⟨(some 16), none, .max (.t 15) (kI 0), [], false⟩,
   ⟨(some 17), none, .min (.t 16) (kI 1000000000000000), [], false⟩,
   ⟨(some 18), none, .mv (.t 3), [], false⟩,
   ⟨(some 19), none, .max (.t 18) (kI 0), [], false⟩,
   ⟨(some 20), none, .min (.t 19) (kI 1000000000000), [], false⟩,
   ⟨(some 21), none, .build [.d (.v (.string ⟨#[]⟩)), .d (.v (.int .i64 0)), .d (.v (.int .i64 0))] [(0, 1, (.t 14)), (1, 1, (.t 17)), (2, 1, (.t 20))], [], false⟩,
   ⟨(some 10), none, .zbox [.d (.v (.string ⟨#[]⟩)), .d (.v (.int .i64 0)), .d (.v (.int .i64 0))], [], false⟩,
   ⟨none, none, .store 3 (.t 10) (.t 21), [], false⟩])
 (.seq (.reg [⟨(some 22), none, .mv (.t 9), [], false⟩,
   ⟨(some 23), none, .fn 19 [(.t 5)], [], false⟩,
   ⟨(some 24), none, .call 18 [(.t 22), (.t 23)], [], false⟩,
   ⟨(some 11), none, .mv (.t 24), [], false⟩])
 (.seq (.block 0 (.seq (.sem (.regd [⟨(some 31), none, .mv (.t 11), [], true⟩,
   ⟨(some 32), none, .bin .geq (.t 31) (kI 0), [0], true⟩,
   ⟨(some 33), none, .mv (.t 32), [0, 1], true⟩,
   ⟨(some 34), (some (33, true)), .mv (.t 9), [0, 1, 2], false⟩,
   ⟨(some 35), (some (33, true)), .mv (.t 11), [0, 1, 2], false⟩,
   ⟨(some 36), (some (33, true)), .indexA 3 (.t 34) (.t 35), [0, 1, 2, 3, 4], false⟩,
   ⟨(some 37), (some (33, true)), .fieldA 0 (.t 36), [0, 1, 2, 3, 4, 5], false⟩,
   ⟨(some 38), (some (33, true)), .load none (.t 37), [0, 1, 2, 3, 4, 5, 6], false⟩,
   ⟨(some 39), (some (33, true)), .load none (.t 5), [0, 1, 2], false⟩,
   ⟨(some 40), (some (33, true)), .bin .eql (.t 38) (.t 39), [0, 1, 2, 3, 4, 5, 6, 7, 8], true⟩,
   ⟨(some 41), none, .pick (.t 33) (.t 40) (kB false), [0, 1, 2, 3, 4, 5, 6, 7, 8, 9], true⟩,
   ⟨(some 30), none, .mv (.t 41), [0, 1, 2, 3, 4, 5, 6, 7, 8, 9, 10], true⟩]))
 (.cond (.t 30)
 (.seq (.regd [⟨(some 42), none, .fieldA 2 (.t 10), [], false⟩,
   ⟨(some 43), none, .load none (.t 42), [0], false⟩,
   ⟨(some 44), none, .mv (.t 9), [], false⟩,
   ⟨(some 45), none, .mv (.t 11), [], false⟩,
   ⟨(some 46), none, .indexA 3 (.t 44) (.t 45), [2, 3], false⟩,
   ⟨(some 47), none, .fieldA 2 (.t 46), [2, 3, 4], false⟩,
   ⟨(some 48), none, .load none (.t 47), [2, 3, 4, 5], false⟩,
   ⟨(some 49), none, .max (.t 43) (.t 48), [0, 1, 2, 3, 4, 5, 6], true⟩,
   ⟨(some 50), none, .fieldA 2 (.t 10), [0, 1, 2, 3, 4, 5, 6, 7], true⟩,
   ⟨none, none, .store 1 (.t 50) (.t 49), [0, 1, 2, 3, 4, 5, 6, 7, 8], true⟩])
 (.reg [⟨(some 51), none, .mv (.t 9), [], false⟩,
   ⟨(some 52), none, .mv (.t 11), [], false⟩,
   ⟨(some 53), none, .load (some 3) (.t 10), [], false⟩,
   ⟨(some 54), none, .indexA 3 (.t 51) (.t 52), [], false⟩,
   ⟨none, none, .store 3 (.t 54) (.t 53), [], false⟩]))
 (.seq (.reg [⟨(some 56), none, .mv (.t 9), [], false⟩,
   ⟨(some 57), none, .len (.t 56), [], false⟩,
   ⟨(some 58), none, .bin .geq (.t 57) (kI 64), [], false⟩,
   ⟨(some 55), none, .mv (.t 58), [], false⟩])
 (.cond (.t 55)
 .skip
 (.seq (.reg [⟨(some 60), none, .mv (.t 11), [], false⟩,
   ⟨(some 61), none, .bin .lss (.t 60) (kI 0), [], false⟩,
   ⟨(some 59), none, .mv (.t 61), [], false⟩])
 (.cond (.t 59)
 (.reg [⟨(some 62), none, .mv (.t 9), [], false⟩,
   ⟨(some 63), none, .load (some 3) (.t 10), [], false⟩,
   ⟨(some 64), none, .bslice 3 [(.t 63)], [], false⟩,
   ⟨(some 65), none, .app 3 32 (.t 62) (.t 64), [], false⟩,
   ⟨(some 9), none, .mv (.t 65), [], false⟩])
 (.reg [⟨(some 25), none, .mv (.t 9), [], false⟩,
   ⟨(some 26), none, .mv (.t 11), [], false⟩,
   ⟨(some 27), none, .load (some 3) (.t 10), [], false⟩,
   ⟨(some 28), none, .bslice 3 [(.t 27)], [], false⟩,
   ⟨(some 29), none, .call 20 [(.t 25), (.t 26), (.t 28)], [], false⟩,
   ⟨(some 9), none, .mv (.t 29), [], false⟩]))))))))
 (.seq (.reg [⟨(some 66), none, .mv (.t 9), [], false⟩,
   ⟨(some 8), none, .mv (.t 66), [], false⟩])
 .ret))))))⟩
theorem a9_ok : afn Try.prog 9 = some a9.er := by kernel_rfl
theorem F9_ok {x0 : (List Image)} {x1 : ByteArray} {x2 : Int} {x3 : Int} {r : (List Image)} (h : F9 x0 x1 x2 x3 = some r) : CallD Try.prog 9 [.c (.d (.sl (x0.map eImage))), .c (.d (.v (.string x1))), .c (.d (.v (.int .i64 x2))), .c (.d (.v (.int .i64 x3)))] [] (tupV [.c (.own 0 0 0 (r.length) none)]) [some (.arr 0 3 (r.map eImage))] := by
  refine callS a9_ok (by simp [a9]) ?_
  rw [F9] at h
  simp only [a9, VW.down, Nat.reduceEqDiff, reduceCtorEq, Nat.reduceAdd, Nat.reduceLeDiff, Nat.reduceLT, EE.down]
  obtain ⟨t1, ht1, h⟩ := Option.bind_eq_some_iff.1 h
  refine callX_n [] (F17_ok ht1) ?_ ?_ ?_ ?_ ?_ ?_
  · first | rfl | simp [nrmA, nrmC, nrm, A1.ren, C.ren, rn, List.length_set]
  · simp [liveAll, A1.live, C.live]
  · rfl
  · decide
  · exact trivial
  simp only [VW.down, Nat.reduceEqDiff, reduceCtorEq, Nat.reduceAdd, Nat.reduceLeDiff, Nat.reduceLT, EE.down]
  obtain ⟨t2, ht2, h⟩ := Option.bind_eq_some_iff.1 h
  refine callX_n [1, 0] (F18_ok (e0 := 1) ht2) ?_ ?_ ?_ ?_ ?_ ?_
  · first | rfl | simp [nrmA, nrmC, nrm, A1.ren, C.ren, rn, List.length_set]
  · simp [liveAll, A1.live, C.live, hp]
  · rfl
  · decide
  · exact ⟨⟨rfl, trivial⟩, ⟨⟨rfl, by simp [Blk.live, C.live, hp]⟩, trivial⟩⟩
  simp only [VW.down, Nat.reduceEqDiff, reduceCtorEq, Nat.reduceAdd, Nat.reduceLeDiff, Nat.reduceLT, EE.down]
  obtain ⟨o3, ho, h⟩ := Option.bind_eq_some_iff.1 h
  refine cutS (fun s => s = ⟨[(9, .one (.c (.own 0 0 0 (t1.length) none))), (10, .one (.c (.pt 1 0))), (11, .one (.c (.d (.v (.int .i64 t2))))), (30, .one (.c (.d (.v (.bool o3)))))], [some (.arr 0 3 (t1.map eImage)), some (.box [.d (.v (.string x1)), .d (.v (.int .i64 ((if 1000000000000000 < (if x2 < 0 then 0 else x2) then 1000000000000000 else (if x2 < 0 then 0 else x2))))), .d (.v (.int .i64 ((if 1000000000000 < (if x3 < 0 then 0 else x3) then 1000000000000 else (if x3 < 0 then 0 else x3)))))])]⟩) ?_ ?_
  · have h := ho
    clear ho
    simp only [VW.down, Nat.reduceEqDiff, reduceCtorEq, Nat.reduceAdd, Nat.reduceLeDiff, Nat.reduceLT, EE.down]
    refine guardD (fun g4 => ?_) (fun g4 => ?_)
    · have h := (if_pos g4).symm.trans h
      simp only [VW.down, Nat.reduceEqDiff, reduceCtorEq, Nat.reduceAdd, Nat.reduceLeDiff, Nat.reduceLT, EE.down]
      obtain ⟨y5, hy5, h⟩ := Option.bind_eq_some_iff.1 h
      refine t_idxO (enc := eImage) (xs := t1) rfl rfl rfl (by first | rfl | simp only [List.length_set]) hy5 ?_
      simp only [VW.down, Nat.reduceEqDiff, reduceCtorEq, Nat.reduceAdd, Nat.reduceLeDiff, Nat.reduceLT, EE.down]
      refine LdRow.rd (rdI_some hy5).2.1 ?_
      simp only [VW.down, Nat.reduceEqDiff, reduceCtorEq, Nat.reduceAdd, Nat.reduceLeDiff, Nat.reduceLT, EE.down]
      obtain rfl := Option.some.inj h
      exact eM [some 1, some 2] rfl
    · have h := (if_neg g4).symm.trans h
      simp only [VW.down, Nat.reduceEqDiff, reduceCtorEq, Nat.reduceAdd, Nat.reduceLeDiff, Nat.reduceLT, EE.down]
      obtain rfl := Option.some.inj h
      exact eM [some 1, some 2] rfl
  · rintro _ rfl
    clear ho
    simp only [VW.down, Nat.reduceEqDiff, reduceCtorEq, Nat.reduceAdd, Nat.reduceLeDiff, Nat.reduceLT, EE.down]
    refine condB (fun c6 => ?_) (fun c6 => ?_)
    · have h := (if_pos c6).symm.trans h
      simp only [VW.down, Nat.reduceEqDiff, reduceCtorEq, Nat.reduceAdd, Nat.reduceLeDiff, Nat.reduceLT, EE.down]
      obtain ⟨y7, hy7, h⟩ := Option.bind_eq_some_iff.1 h
      refine t_idxO (enc := eImage) (xs := t1) rfl rfl rfl (by first | rfl | simp only [List.length_set]) hy7 ?_
      simp only [VW.down, Nat.reduceEqDiff, reduceCtorEq, Nat.reduceAdd, Nat.reduceLeDiff, Nat.reduceLT, EE.down]
      refine LdRow.rd (rdI_some hy7).2.1 ?_
      simp only [VW.down, Nat.reduceEqDiff, reduceCtorEq, Nat.reduceAdd, Nat.reduceLeDiff, Nat.reduceLT, EE.down]
      obtain ⟨y8, hy8, h⟩ := Option.bind_eq_some_iff.1 h
      refine t_idxO (enc := eImage) (xs := t1) rfl rfl rfl (by first | rfl | simp only [List.length_set]) hy8 ?_
      simp only [VW.down, Nat.reduceEqDiff, reduceCtorEq, Nat.reduceAdd, Nat.reduceLeDiff, Nat.reduceLT, EE.down]
      refine StRow.rd (y' := (⟨x1, (if 1000000000000000 < (if x2 < 0 then 0 else x2) then 1000000000000000 else (if x2 < 0 then 0 else x2)), (if (if 1000000000000 < (if x3 < 0 then 0 else x3) then 1000000000000 else (if x3 < 0 then 0 else x3)) < y7.Used then y7.Used else (if 1000000000000 < (if x3 < 0 then 0 else x3) then 1000000000000 else (if x3 < 0 then 0 else x3)))⟩ : Image)) (rdI_some hy8).2.1 (by simp [EE.down]) rfl ?_
      simp only [VW.down, Nat.reduceEqDiff, reduceCtorEq, Nat.reduceAdd, Nat.reduceLeDiff, Nat.reduceLT, EE.down]
      obtain rfl := Option.some.inj h
      exact eF [some 0]
    · have h := (if_neg c6).symm.trans h
      simp only [VW.down, Nat.reduceEqDiff, reduceCtorEq, Nat.reduceAdd, Nat.reduceLeDiff, Nat.reduceLT, EE.down]
      refine condS (fun c9 => ?_) (fun c9 => ?_)
      · have h := (if_pos c9).symm.trans h
        simp only [VW.down, Nat.reduceEqDiff, reduceCtorEq, Nat.reduceAdd, Nat.reduceLeDiff, Nat.reduceLT, EE.down]
        obtain rfl := Option.some.inj h
        exact eF [some 0]
      · have h := (if_neg c9).symm.trans h
        simp only [VW.down, Nat.reduceEqDiff, reduceCtorEq, Nat.reduceAdd, Nat.reduceLeDiff, Nat.reduceLT, EE.down]
        refine condS (fun c10 => ?_) (fun c10 => ?_)
        · have h := (if_pos c10).symm.trans h
          simp only [VW.down, Nat.reduceEqDiff, reduceCtorEq, Nat.reduceAdd, Nat.reduceLeDiff, Nat.reduceLT, EE.down]
          refine t_bslice (enc := eImage) (ys := [(⟨x1, (if 1000000000000000 < (if x2 < 0 then 0 else x2) then 1000000000000000 else (if x2 < 0 then 0 else x2)), (if 1000000000000 < (if x3 < 0 then 0 else x3) then 1000000000000 else (if x3 < 0 then 0 else x3))⟩ : Image)]) rfl rfl (by simp [A1.cells]) rfl ?_
          simp only [VW.down, Nat.reduceEqDiff, reduceCtorEq, Nat.reduceAdd, Nat.reduceLeDiff, Nat.reduceLT, EE.down]
          obtain ⟨a11, ha11, h⟩ := Option.bind_eq_some_iff.1 h
          refine t_app (enc := eImage) (xs := t1) rfl rfl (by first | rfl | simp only [List.length_set]) rfl (rows_full (enc := eImage) (by first | rfl | simp only [List.length_set]) rfl) ha11 ?_
          simp only [VW.down, Nat.reduceEqDiff, reduceCtorEq, Nat.reduceAdd, Nat.reduceLeDiff, Nat.reduceLT, EE.down]
          obtain rfl := Option.some.inj h
          exact eF [some 0]
        · have h := (if_neg c10).symm.trans h
          simp only [VW.down, Nat.reduceEqDiff, reduceCtorEq, Nat.reduceAdd, Nat.reduceLeDiff, Nat.reduceLT, EE.down]
          refine t_bslice (enc := eImage) (ys := [(⟨x1, (if 1000000000000000 < (if x2 < 0 then 0 else x2) then 1000000000000000 else (if x2 < 0 then 0 else x2)), (if 1000000000000 < (if x3 < 0 then 0 else x3) then 1000000000000 else (if x3 < 0 then 0 else x3))⟩ : Image)]) rfl rfl (by simp [A1.cells]) rfl ?_
          simp only [VW.down, Nat.reduceEqDiff, reduceCtorEq, Nat.reduceAdd, Nat.reduceLeDiff, Nat.reduceLT, EE.down]
          obtain ⟨t12, ht12, h⟩ := Option.bind_eq_some_iff.1 h
          refine callX_n [0, 2] (F20_ok (e0 := 0) (e1 := 0) ht12) ?_ ?_ ?_ ?_ ?_ ?_
          · first | rfl | simp [nrmA, nrmC, nrm, A1.ren, C.ren, rn, List.length_set]
          · simp [liveAll, A1.live, C.live, hp]
          · rfl
          · decide
          · exact ⟨⟨rfl, trivial⟩, ⟨⟨rfl, trivial⟩, trivial⟩⟩
          simp only [VW.down, Nat.reduceEqDiff, reduceCtorEq, Nat.reduceAdd, Nat.reduceLeDiff, Nat.reduceLT, EE.down]
          obtain rfl := Option.some.inj h
          exact eF [some 0]

/- orchestrator/orchestratorref52.Same -/
def F10_l2 (x1 : (List Image)) : List Image → Nat → Option ((Bool) ⊕ (Unit))
  | [], o2_0 => some (Sum.inr (()))
  | xo2 :: xs, o2_0 => (rdI x1 ((o2_0 : Int))).bind fun y4 => (if ¬ (xo2.Name = y4.Name ∧ xo2.Size = y4.Size ∧ xo2.Used = y4.Used) then (some false).map Sum.inl else F10_l2 x1 xs (o2_0 + 1))
def F10 (x0 : (List Image)) (x1 : (List Image)) : Option (Bool) := (if ¬ ((x0.length : Int) = (x1.length : Int)) then some false else (((ck (0 ≤ x0.length ∧ x0.length ≤ 4294967290)).bind fun u6 => F10_l2 x1 x0 0).bind fun o2 => match o2 with | Sum.inl f => some f | Sum.inr po2 => some true))
def a10 : AFn := ⟨26, [(.tmp 4)],
 (.seq (.reg [⟨(some 4), none, .mv (kB false), [], true⟩])
 (.seq (.seq (.reg [⟨(some 6), none, .mv (.t 0), [], false⟩,
   ⟨(some 7), none, .len (.t 6), [], false⟩,
   ⟨(some 8), none, .mv (.t 1), [], false⟩,
   ⟨(some 9), none, .len (.t 8), [], false⟩,
   ⟨(some 10), none, .bin .neq (.t 7) (.t 9), [], false⟩])
 (.cond (.t 10)
 (.seq (.reg [⟨(some 4), none, .mv (kB false), [], true⟩])
 .ret)
 .skip))
 (.seq (.seq (.reg [⟨(some 5), none, .mv (kI 0), [], true⟩])
 (.sem (.block 0 (.loop (.seq (.seq (.reg [⟨(some 11), none, .mv (.t 5), [], false⟩,
   ⟨(some 12), none, .mv (.t 0), [], false⟩,
   ⟨(some 13), none, .len (.t 12), [], false⟩,
   ⟨(some 14), none, .bin .lss (.t 11) (.t 13), [], false⟩])
 (.cond (.t 14)
 .skip
 (.exit 0)))
 (.seq (.block 1 (.seq (.regd [⟨(some 17), none, .mv (.t 0), [], false⟩,
   ⟨(some 18), none, .mv (.t 5), [], false⟩,
   ⟨(some 19), none, .indexA 3 (.t 17) (.t 18), [0, 1], false⟩,
   ⟨(some 20), none, .load (some 3) (.t 19), [0, 1, 2], false⟩,
   ⟨(some 21), none, .mv (.t 1), [], false⟩,
   ⟨(some 22), none, .mv (.t 5), [], false⟩,
   ⟨(some 23), none, .indexA 3 (.t 21) (.t 22), [4, 5], false⟩,
   ⟨(some 24), none, .load (some 3) (.t 23), [4, 5, 6], false⟩,
   ⟨(some 25), none, .eqs true [(0, 2), (1, 0), (2, 0)] (.t 20) (.t 24), [0, 1, 2, 3, 4, 5, 6, 7], true⟩])
 (.cond (.t 25)
 (.seq (.reg [⟨(some 4), none, .mv (kB false), [], true⟩])
 .ret)
 .skip)))
 (.reg [⟨(some 15), none, .mv (.t 5), [], false⟩,
   ⟨(some 16), none, .bin .add (.t 15) (kI 1), [], false⟩,
   ⟨(some 5), none, .mv (.t 16), [], false⟩])))))))
 (.seq (.reg [⟨(some 4), none, .mv (kB true), [], true⟩])
 .ret))))⟩
theorem a10_ok : afn Try.prog 10 = some a10.er := by kernel_rfl
theorem F10_ok {x0 : (List Image)} {x1 : (List Image)} {r : Bool} (h : F10 x0 x1 = some r) : CallD Try.prog 10 [.c (.d (.sl (x0.map eImage))), .c (.d (.sl (x1.map eImage)))] [] (tupV [.c (.d (.v (.bool r)))]) [] := by
  refine callS a10_ok (by simp [a10]) ?_
  rw [F10] at h
  simp only [a10, VW.down, Nat.reduceEqDiff, reduceCtorEq, Nat.reduceAdd, Nat.reduceLeDiff, Nat.reduceLT, EE.down]
  refine condS (fun c1 => ?_) (fun c1 => ?_)
  · have h := (if_pos c1).symm.trans h
    simp only [VW.down, Nat.reduceEqDiff, reduceCtorEq, Nat.reduceAdd, Nat.reduceLeDiff, Nat.reduceLT, EE.down]
    obtain rfl := Option.some.inj h
    exact eF []
  · have h := (if_neg c1).symm.trans h
    simp only [VW.down, Nat.reduceEqDiff, reduceCtorEq, Nat.reduceAdd, Nat.reduceLeDiff, Nat.reduceLT, EE.down]
    obtain ⟨o2, ho, h⟩ := Option.bind_eq_some_iff.1 h
    refine cutS (fun s => ∃ po2, o2 = Sum.inr po2 ∧ s = ⟨[], []⟩) ?_ ?_
    · have h0o2 := h
      have h := ho
      clear ho
      obtain ⟨_, hk, h⟩ := Option.bind_eq_some_iff.1 h
      have hk := ck_some hk
      simp only [VW.down, Nat.reduceEqDiff, reduceCtorEq, Nat.reduceAdd, Nat.reduceLeDiff, Nat.reduceLT, EE.down]
      refine bL (fun j s => ∃ (o2_0 : Nat), (o2_0 ≤ x0.length ∧ j = x0.length - o2_0) ∧ s = ⟨[(0, .one (.c (.d (.sl (x0.map eImage))))), (1, .one (.c (.d (.sl (x1.map eImage))))), (5, .one (.c (.d (.v (.int .i64 ((o2_0 : Int)))))))], []⟩ ∧ F10_l2 x1 (x0.drop o2_0) o2_0 = some o2) (x0.length - 0) [] ⟨0, ⟨hk.1, rfl⟩, rfl, h⟩ ?_
      rintro _ _ ⟨o2_0, ⟨hi, rfl⟩, rfl, h⟩
      simp only [VW.down, Nat.reduceEqDiff, reduceCtorEq, Nat.reduceAdd, Nat.reduceLeDiff, Nat.reduceLT, EE.down]
      refine condS (fun c3 => ?_) (fun c3 => ?_)
      · obtain ⟨xo2, hxo2, hd⟩ := countY c3
        rw [hd, F10_l2] at h
        simp only [VW.down, Nat.reduceEqDiff, reduceCtorEq, Nat.reduceAdd, Nat.reduceLeDiff, Nat.reduceLT, EE.down]
        refine t_idxF (enc := eImage) (xs := x0) rfl rfl hxo2 rfl ?_
        simp only [VW.down, Nat.reduceEqDiff, reduceCtorEq, Nat.reduceAdd, Nat.reduceLeDiff, Nat.reduceLT, EE.down]
        obtain ⟨y4, hy4, h⟩ := Option.bind_eq_some_iff.1 h
        refine t_idxF (enc := eImage) (xs := x1) rfl rfl hy4 rfl ?_
        simp only [VW.down, Nat.reduceEqDiff, reduceCtorEq, Nat.reduceAdd, Nat.reduceLeDiff, Nat.reduceLT, EE.down]
        refine condS (fun c5 => ?_) (fun c5 => ?_)
        · have h := (if_pos c5).symm.trans h
          simp only [VW.down, Nat.reduceEqDiff, reduceCtorEq, Nat.reduceAdd, Nat.reduceLeDiff, Nat.reduceLT, EE.down]
          obtain ⟨fh0o2, hfh0o2, rfl⟩ := Option.map_eq_some_iff.1 h
          have h := hfh0o2.trans h0o2
          obtain rfl := Option.some.inj h
          exact eF []
        · have h := (if_neg c5).symm.trans h
          simp only [VW.down, Nat.reduceEqDiff, reduceCtorEq, Nat.reduceAdd, Nat.reduceLeDiff, Nat.reduceLT, EE.down]
          rw [wrapN (by omega)]
          exact eL' (x0.length - (o2_0 + 1)) [] ⟨o2_0 + 1, ⟨by omega, rfl⟩, rfl, h⟩ (by omega)
      · rw [countN c3, F10_l2] at h
        simp only [VW.down, Nat.reduceEqDiff, reduceCtorEq, Nat.reduceAdd, Nat.reduceLeDiff, Nat.reduceLT, EE.down]
        obtain rfl := Option.some.inj h
        exact eM [] ⟨_, rfl, rfl⟩
    · rintro _ ⟨po2, rfl, rfl⟩
      clear ho
      dsimp only at h
      simp only [VW.down, Nat.reduceEqDiff, reduceCtorEq, Nat.reduceAdd, Nat.reduceLeDiff, Nat.reduceLT, EE.down]
      obtain rfl := Option.some.inj h
      exact eF []

/- orchestrator/orchestratorref03.SameStrings -/
def F14_l2 (x1 : (List ByteArray)) : List ByteArray → Nat → Option ((Bool) ⊕ (Unit))
  | [], o2_0 => some (Sum.inr (()))
  | xo2 :: xs, o2_0 => (rdI x1 ((o2_0 : Int))).bind fun y4 => (if ¬ (xo2 = y4) then (some false).map Sum.inl else F14_l2 x1 xs (o2_0 + 1))
def F14 (x0 : (List ByteArray)) (x1 : (List ByteArray)) : Option (Bool) := (if ¬ ((x0.length : Int) = (x1.length : Int)) then some false else (((ck (0 ≤ x0.length ∧ x0.length ≤ 4294967290)).bind fun u6 => F14_l2 x1 x0 0).bind fun o2 => match o2 with | Sum.inl f => some f | Sum.inr po2 => some true))
def a14 : AFn := ⟨26, [(.tmp 4)],
 (.seq (.reg [⟨(some 4), none, .mv (kB false), [], true⟩])
 (.seq (.seq (.reg [⟨(some 6), none, .mv (.t 0), [], false⟩,
   ⟨(some 7), none, .len (.t 6), [], false⟩,
   ⟨(some 8), none, .mv (.t 1), [], false⟩,
   ⟨(some 9), none, .len (.t 8), [], false⟩,
   ⟨(some 10), none, .bin .neq (.t 7) (.t 9), [], false⟩])
 (.cond (.t 10)
 (.seq (.reg [⟨(some 4), none, .mv (kB false), [], true⟩])
 .ret)
 .skip))
 (.seq (.seq (.reg [⟨(some 5), none, .mv (kI 0), [], true⟩])
 (.sem (.block 0 (.loop (.seq (.seq (.reg [⟨(some 11), none, .mv (.t 5), [], false⟩,
   ⟨(some 12), none, .mv (.t 0), [], false⟩,
   ⟨(some 13), none, .len (.t 12), [], false⟩,
   ⟨(some 14), none, .bin .lss (.t 11) (.t 13), [], false⟩])
 (.cond (.t 14)
 .skip
 (.exit 0)))
 (.seq (.block 1 (.seq (.regd [⟨(some 17), none, .mv (.t 0), [], false⟩,
   ⟨(some 18), none, .mv (.t 5), [], false⟩,
   ⟨(some 19), none, .indexA 1 (.t 17) (.t 18), [0, 1], false⟩,
   ⟨(some 20), none, .load none (.t 19), [0, 1, 2], false⟩,
   ⟨(some 21), none, .mv (.t 1), [], false⟩,
   ⟨(some 22), none, .mv (.t 5), [], false⟩,
   ⟨(some 23), none, .indexA 1 (.t 21) (.t 22), [4, 5], false⟩,
   ⟨(some 24), none, .load none (.t 23), [4, 5, 6], false⟩,
   ⟨(some 25), none, .bin .neq (.t 20) (.t 24), [0, 1, 2, 3, 4, 5, 6, 7], true⟩])
 (.cond (.t 25)
 (.seq (.reg [⟨(some 4), none, .mv (kB false), [], true⟩])
 .ret)
 .skip)))
 (.reg [⟨(some 15), none, .mv (.t 5), [], false⟩,
   ⟨(some 16), none, .bin .add (.t 15) (kI 1), [], false⟩,
   ⟨(some 5), none, .mv (.t 16), [], false⟩])))))))
 (.seq (.reg [⟨(some 4), none, .mv (kB true), [], true⟩])
 .ret))))⟩
theorem a14_ok : afn Try.prog 14 = some a14.er := by kernel_rfl
theorem F14_ok {x0 : (List ByteArray)} {x1 : (List ByteArray)} {r : Bool} (h : F14 x0 x1 = some r) : CallD Try.prog 14 [.c (.d (.sl (x0.map eS))), .c (.d (.sl (x1.map eS)))] [] (tupV [.c (.d (.v (.bool r)))]) [] := by
  refine callS a14_ok (by simp [a14]) ?_
  rw [F14] at h
  simp only [a14, VW.down, Nat.reduceEqDiff, reduceCtorEq, Nat.reduceAdd, Nat.reduceLeDiff, Nat.reduceLT, EE.down]
  refine condS (fun c1 => ?_) (fun c1 => ?_)
  · have h := (if_pos c1).symm.trans h
    simp only [VW.down, Nat.reduceEqDiff, reduceCtorEq, Nat.reduceAdd, Nat.reduceLeDiff, Nat.reduceLT, EE.down]
    obtain rfl := Option.some.inj h
    exact eF []
  · have h := (if_neg c1).symm.trans h
    simp only [VW.down, Nat.reduceEqDiff, reduceCtorEq, Nat.reduceAdd, Nat.reduceLeDiff, Nat.reduceLT, EE.down]
    obtain ⟨o2, ho, h⟩ := Option.bind_eq_some_iff.1 h
    refine cutS (fun s => ∃ po2, o2 = Sum.inr po2 ∧ s = ⟨[], []⟩) ?_ ?_
    · have h0o2 := h
      have h := ho
      clear ho
      obtain ⟨_, hk, h⟩ := Option.bind_eq_some_iff.1 h
      have hk := ck_some hk
      simp only [VW.down, Nat.reduceEqDiff, reduceCtorEq, Nat.reduceAdd, Nat.reduceLeDiff, Nat.reduceLT, EE.down]
      refine bL (fun j s => ∃ (o2_0 : Nat), (o2_0 ≤ x0.length ∧ j = x0.length - o2_0) ∧ s = ⟨[(0, .one (.c (.d (.sl (x0.map eS))))), (1, .one (.c (.d (.sl (x1.map eS))))), (5, .one (.c (.d (.v (.int .i64 ((o2_0 : Int)))))))], []⟩ ∧ F14_l2 x1 (x0.drop o2_0) o2_0 = some o2) (x0.length - 0) [] ⟨0, ⟨hk.1, rfl⟩, rfl, h⟩ ?_
      rintro _ _ ⟨o2_0, ⟨hi, rfl⟩, rfl, h⟩
      simp only [VW.down, Nat.reduceEqDiff, reduceCtorEq, Nat.reduceAdd, Nat.reduceLeDiff, Nat.reduceLT, EE.down]
      refine condS (fun c3 => ?_) (fun c3 => ?_)
      · obtain ⟨xo2, hxo2, hd⟩ := countY c3
        rw [hd, F14_l2] at h
        simp only [VW.down, Nat.reduceEqDiff, reduceCtorEq, Nat.reduceAdd, Nat.reduceLeDiff, Nat.reduceLT, EE.down]
        refine t_idxF (enc := eS) (xs := x0) rfl rfl hxo2 rfl ?_
        simp only [VW.down, Nat.reduceEqDiff, reduceCtorEq, Nat.reduceAdd, Nat.reduceLeDiff, Nat.reduceLT, EE.down]
        obtain ⟨y4, hy4, h⟩ := Option.bind_eq_some_iff.1 h
        refine t_idxF (enc := eS) (xs := x1) rfl rfl hy4 rfl ?_
        simp only [VW.down, Nat.reduceEqDiff, reduceCtorEq, Nat.reduceAdd, Nat.reduceLeDiff, Nat.reduceLT, EE.down]
        refine condS (fun c5 => ?_) (fun c5 => ?_)
        · have h := (if_pos c5).symm.trans h
          simp only [VW.down, Nat.reduceEqDiff, reduceCtorEq, Nat.reduceAdd, Nat.reduceLeDiff, Nat.reduceLT, EE.down]
          obtain ⟨fh0o2, hfh0o2, rfl⟩ := Option.map_eq_some_iff.1 h
          have h := hfh0o2.trans h0o2
          obtain rfl := Option.some.inj h
          exact eF []
        · have h := (if_neg c5).symm.trans h
          simp only [VW.down, Nat.reduceEqDiff, reduceCtorEq, Nat.reduceAdd, Nat.reduceLeDiff, Nat.reduceLT, EE.down]
          rw [wrapN (by omega)]
          exact eL' (x0.length - (o2_0 + 1)) [] ⟨o2_0 + 1, ⟨by omega, rfl⟩, rfl, h⟩ (by omega)
      · rw [countN c3, F14_l2] at h
        simp only [VW.down, Nat.reduceEqDiff, reduceCtorEq, Nat.reduceAdd, Nat.reduceLeDiff, Nat.reduceLT, EE.down]
        obtain rfl := Option.some.inj h
        exact eM [] ⟨_, rfl, rfl⟩
    · rintro _ ⟨po2, rfl, rfl⟩
      clear ho
      dsimp only at h
      simp only [VW.down, Nat.reduceEqDiff, reduceCtorEq, Nat.reduceAdd, Nat.reduceLeDiff, Nat.reduceLT, EE.down]
      obtain rfl := Option.some.inj h
      exact eF []

/- orchestrator/orchestratorlaw52.lives -/
def F8  : Option (Bool) := ((some (())).bind fun o1 => (F12 ([(⟨(⟨#[97]⟩ : ByteArray), 40, 3⟩ : Image), (⟨(⟨#[98]⟩ : ByteArray), 30, 1⟩ : Image), (⟨(⟨#[99]⟩ : ByteArray), 20, 2⟩ : Image)]) ([(⟨#[99]⟩ : ByteArray)]) 100 80 50).bind fun t2 => (F9 ([]) ((⟨#[97]⟩ : ByteArray)) 10 5).bind fun t3 => (F9 t3 ((⟨#[97]⟩ : ByteArray)) 12 3).bind fun t4 => (((slI ([(⟨(⟨#[97]⟩ : ByteArray), 40, 3⟩ : Image), (⟨(⟨#[98]⟩ : ByteArray), 30, 1⟩ : Image), (⟨(⟨#[99]⟩ : ByteArray), 20, 2⟩ : Image)]) 2 ((([(⟨(⟨#[97]⟩ : ByteArray), 40, 3⟩ : Image), (⟨(⟨#[98]⟩ : ByteArray), 30, 1⟩ : Image), (⟨(⟨#[99]⟩ : ByteArray), 20, 2⟩ : Image)]).length : Int))).bind fun s6 => (F10 t2.1 s6).bind fun t7 => (if t7 = true then (F14 t2.2 ([(⟨#[98]⟩ : ByteArray), (⟨#[97]⟩ : ByteArray)])).bind fun t9 => (if t9 = true then (F10 t4 ([(⟨(⟨#[97]⟩ : ByteArray), 12, 5⟩ : Image)])).bind fun t11 => some t11 else some false) else some false)).bind fun o5 => some o5))
def a8 : AFn := ⟨32, [(.tmp 0)],
 (.seq (.reg [⟨(some 0), none, .mv (kB false), [], true⟩])
 (.seq (.sem (.reg [⟨(some 5), none, .build [.d (.v (.string ⟨#[]⟩)), .d (.v (.int .i64 0)), .d (.v (.int .i64 0))] [(0, 1, (kS ⟨#[97]⟩)), (1, 1, (kI 40)), (2, 1, (kI 3))], [], false⟩,
   ⟨(some 6), none, .build [.d (.v (.string ⟨#[]⟩)), .d (.v (.int .i64 0)), .d (.v (.int .i64 0))] [(0, 1, (kS ⟨#[98]⟩)), (1, 1, (kI 30)), (2, 1, (kI 1))], [], false⟩,
   ⟨(some 7), none, .build [.d (.v (.string ⟨#[]⟩)), .d (.v (.int .i64 0)), .d (.v (.int .i64 0))] [(0, 1, (kS ⟨#[99]⟩)), (1, 1, (kI 20)), (2, 1, (kI 2))], [], false⟩,
   ⟨(some 8), none, .bslice 3 [(.t 5), (.t 6), (.t 7)], [], false⟩,
   ⟨(some 1), none, .mv (.t 8), [], false⟩]))
 (.seq (.reg [⟨(some 10), none, .mv (.t 1), [], false⟩,
   ⟨(some 11), none, .bslice 1 [(kS ⟨#[99]⟩)], [], false⟩,
   ⟨(some 12), none, .call 12 [(.t 10), (.t 11), (kI 100), (kI 80), (kI 50)], [], false⟩,
   ⟨(some 9), none, .mv (.t 12), [], false⟩,
   ⟨(some 13), none, .ext (.t 9) 0, [], false⟩,
   ⟨(some 14), none, .ext (.t 9) 1, [], false⟩,
   ⟨(some 2), none, .mv (.t 13), [], false⟩,
   ⟨(some 3), none, .mv (.t 14), [], false⟩])
 (.seq (.reg [⟨(some 15), none, .call 9 [kN, (kS ⟨#[97]⟩), (kI 10), (kI 5)], [], false⟩,
   ⟨(some 16), none, .call 9 [(.t 15), (kS ⟨#[97]⟩), (kI 12), (kI 3)], [], false⟩,
   ⟨(some 4), none, .mv (.t 16), [], false⟩])
 (.seq (.sem (.reg [⟨(some 17), none, .mv (.t 2), [], false⟩,
   ⟨(some 18), none, .mv (.t 1), [], false⟩,
   ⟨(some 19), none, .slice 3 (.t 18) (some (kI 2)) none none, [], false⟩,
   ⟨(some 20), none, .call 10 [(.t 17), (.t 19)], [], false⟩,
   ⟨(some 21), none, .mv (.t 20), [], false⟩,
   ⟨(some 22), (some (21, true)), .mv (.t 3), [], false⟩,
   ⟨(some 23), (some (21, true)), .bslice 1 [(kS ⟨#[98]⟩), (kS ⟨#[97]⟩)], [], false⟩,
   ⟨(some 24), (some (21, true)), .call 14 [(.t 22), (.t 23)], [], false⟩,
   ⟨(some 25), none, .pick (.t 21) (.t 24) (kB false), [], false⟩,
   ⟨(some 26), none, .mv (.t 25), [], false⟩,
   ⟨(some 27), (some (26, true)), .mv (.t 4), [], false⟩,
   ⟨(some 28), (some (26, true)), .build [.d (.v (.string ⟨#[]⟩)), .d (.v (.int .i64 0)), .d (.v (.int .i64 0))] [(0, 1, (kS ⟨#[97]⟩)), (1, 1, (kI 12)), (2, 1, (kI 5))], [], false⟩,
   ⟨(some 29), (some (26, true)), .bslice 3 [(.t 28)], [], false⟩,
   ⟨(some 30), (some (26, true)), .call 10 [(.t 27), (.t 29)], [], false⟩,
   ⟨(some 31), none, .pick (.t 26) (.t 30) (kB false), [], false⟩,
   ⟨(some 0), none, .mv (.t 31), [], false⟩]))
 .ret)))))⟩
theorem a8_ok : afn Try.prog 8 = some a8.er := by kernel_rfl
theorem F8_ok {r : Bool} (h : F8 = some r) : CallD Try.prog 8 [] [] (tupV [.c (.d (.v (.bool r)))]) [] := by
  refine callS a8_ok (by simp [a8]) ?_
  rw [F8] at h
  simp only [a8, VW.down, Nat.reduceEqDiff, reduceCtorEq, Nat.reduceAdd, Nat.reduceLeDiff, Nat.reduceLT, EE.down]
  obtain ⟨o1, ho, h⟩ := Option.bind_eq_some_iff.1 h
  refine cutS (fun s => s = ⟨[(1, .one (.c (.d (.sl (([(⟨(⟨#[97]⟩ : ByteArray), 40, 3⟩ : Image), (⟨(⟨#[98]⟩ : ByteArray), 30, 1⟩ : Image), (⟨(⟨#[99]⟩ : ByteArray), 20, 2⟩ : Image)]).map eImage)))))], []⟩) ?_ ?_
  · have h := ho
    clear ho
    simp only [VW.down, Nat.reduceEqDiff, reduceCtorEq, Nat.reduceAdd, Nat.reduceLeDiff, Nat.reduceLT, EE.down]
    refine t_bslice (enc := eImage) (ys := [(⟨(⟨#[97]⟩ : ByteArray), 40, 3⟩ : Image), (⟨(⟨#[98]⟩ : ByteArray), 30, 1⟩ : Image), (⟨(⟨#[99]⟩ : ByteArray), 20, 2⟩ : Image)]) rfl rfl (by simp [A1.cells]) rfl ?_
    simp only [VW.down, Nat.reduceEqDiff, reduceCtorEq, Nat.reduceAdd, Nat.reduceLeDiff, Nat.reduceLT, EE.down]
    obtain rfl := Option.some.inj h
    exact eM [] rfl
  · rintro _ rfl
    clear ho
    simp only [VW.down, Nat.reduceEqDiff, reduceCtorEq, Nat.reduceAdd, Nat.reduceLeDiff, Nat.reduceLT, EE.down]
    refine t_bslice (enc := eS) (ys := [(⟨#[99]⟩ : ByteArray)]) rfl rfl (by simp [A1.cells]) rfl ?_
    simp only [VW.down, Nat.reduceEqDiff, reduceCtorEq, Nat.reduceAdd, Nat.reduceLeDiff, Nat.reduceLT, EE.down]
    obtain ⟨t2, ht2, h⟩ := Option.bind_eq_some_iff.1 h
    refine callX_gen (as1 := [.c (.d (.sl (([(⟨(⟨#[97]⟩ : ByteArray), 40, 3⟩ : Image), (⟨(⟨#[98]⟩ : ByteArray), 30, 1⟩ : Image), (⟨(⟨#[99]⟩ : ByteArray), 20, 2⟩ : Image)]).map eImage))), .c (.d (.sl (([(⟨#[99]⟩ : ByteArray)]).map eS))), .c (.d (.v (.int .i64 100))), .c (.d (.v (.int .i64 80))), .c (.d (.v (.int .i64 50)))]) [(0, .arr 1 1 [])] [none] [] (F12_ok ht2) ⟨?_, rfl, ?_⟩ ?_ ?_ ?_ ?_ ?_ ?_ ?_ ?_
    · simp only [ZZ.down, Nat.reduceEqDiff, reduceCtorEq, Nat.reduceAdd, Nat.reduceLeDiff, Nat.reduceLT, Nat.reduceBNe, EE.down]
    · simp only [ZZ.down, Nat.reduceEqDiff, reduceCtorEq, Nat.reduceAdd, Nat.reduceLeDiff, Nat.reduceLT, Nat.reduceBNe, EE.down]
    · simp only [ZZ.down, Nat.reduceEqDiff, reduceCtorEq, Nat.reduceAdd, Nat.reduceLeDiff, Nat.reduceLT, Nat.reduceBNe, EE.down]
    · rfl
    · rfl
    · simp [liveAll, A1.live, C.live]
    · rfl
    · decide
    · exact trivial
    simp only [VW.down, Nat.reduceEqDiff, reduceCtorEq, Nat.reduceAdd, Nat.reduceLeDiff, Nat.reduceLT, EE.down]
    obtain ⟨t3, ht3, h⟩ := Option.bind_eq_some_iff.1 h
    refine callX_n [] (F9_ok ht3) ?_ ?_ ?_ ?_ ?_ ?_
    · first | rfl | simp [nrmA, nrmC, nrm, A1.ren, C.ren, rn, List.length_set]
    · simp [liveAll, A1.live, C.live]
    · rfl
    · decide
    · exact trivial
    simp only [VW.down, Nat.reduceEqDiff, reduceCtorEq, Nat.reduceAdd, Nat.reduceLeDiff, Nat.reduceLT, EE.down]
    obtain ⟨t4, ht4, h⟩ := Option.bind_eq_some_iff.1 h
    refine callX_gen (as1 := [.c (.d (.sl (t3.map eImage))), .c (.d (.v (.string ((⟨#[97]⟩ : ByteArray))))), .c (.d (.v (.int .i64 12))), .c (.d (.v (.int .i64 3)))]) [(3, .arr 1 3 [])] [some 0, some 1, some 2, none] [] (F9_ok ht4) ⟨?_, rfl, ?_⟩ ?_ ?_ ?_ ?_ ?_ ?_ ?_ ?_
    · simp only [ZZ.down, Nat.reduceEqDiff, reduceCtorEq, Nat.reduceAdd, Nat.reduceLeDiff, Nat.reduceLT, Nat.reduceBNe, EE.down]
    · simp only [ZZ.down, Nat.reduceEqDiff, reduceCtorEq, Nat.reduceAdd, Nat.reduceLeDiff, Nat.reduceLT, Nat.reduceBNe, EE.down]
    · simp only [ZZ.down, Nat.reduceEqDiff, reduceCtorEq, Nat.reduceAdd, Nat.reduceLeDiff, Nat.reduceLT, Nat.reduceBNe, EE.down]
    · rfl
    · rfl
    · simp [liveAll, A1.live, C.live]
    · rfl
    · decide
    · exact trivial
    simp only [VW.down, Nat.reduceEqDiff, reduceCtorEq, Nat.reduceAdd, Nat.reduceLeDiff, Nat.reduceLT, EE.down]
    obtain ⟨o5, ho, h⟩ := Option.bind_eq_some_iff.1 h
    refine cutS (fun s => s = ⟨[(0, .one (.c (.d (.v (.bool o5)))))], []⟩) ?_ ?_
    · have h := ho
      clear ho
      simp only [VW.down, Nat.reduceEqDiff, reduceCtorEq, Nat.reduceAdd, Nat.reduceLeDiff, Nat.reduceLT, EE.down]
      obtain ⟨s6, hs6, h⟩ := Option.bind_eq_some_iff.1 h
      refine t_slice (enc := eImage) (xs := ([(⟨(⟨#[97]⟩ : ByteArray), 40, 3⟩ : Image), (⟨(⟨#[98]⟩ : ByteArray), 30, 1⟩ : Image), (⟨(⟨#[99]⟩ : ByteArray), 20, 2⟩ : Image)])) rfl rfl rfl (fun _ => rfl) hs6 ?_
      simp only [VW.down, Nat.reduceEqDiff, reduceCtorEq, Nat.reduceAdd, Nat.reduceLeDiff, Nat.reduceLT, EE.down]
      obtain ⟨t7, ht7, h⟩ := Option.bind_eq_some_iff.1 h
      refine callX_bor (F10_ok ht7) (by simp only [borAs, bors, hp, List.getElem?_cons_zero, List.getElem?_cons_succ, Option.join_some, List.drop_zero, bor_full', true_and, Nat.zero_add, List.length_map, Nat.le_refl, nrm, List.length_cons, List.length_nil, Nat.reduceAdd, Nat.reduceLeDiff, List.take_succ_cons, List.take_zero, List.take_nil, List.map_cons, List.map_nil, List.length_set, EE.down]) rfl ?_
      simp only [VW.down, Nat.reduceEqDiff, reduceCtorEq, Nat.reduceAdd, Nat.reduceLeDiff, Nat.reduceLT, EE.down]
      refine guardSB (fun g8 => ?_) (fun g8 => ?_)
      · have h := (if_pos g8).symm.trans h
        simp only [VW.down, Nat.reduceEqDiff, reduceCtorEq, Nat.reduceAdd, Nat.reduceLeDiff, Nat.reduceLT, EE.down]
        refine t_bslice (enc := eS) (ys := [(⟨#[98]⟩ : ByteArray), (⟨#[97]⟩ : ByteArray)]) rfl rfl (by simp [A1.cells]) rfl ?_
        simp only [VW.down, Nat.reduceEqDiff, reduceCtorEq, Nat.reduceAdd, Nat.reduceLeDiff, Nat.reduceLT, EE.down]
        obtain ⟨t9, ht9, h⟩ := Option.bind_eq_some_iff.1 h
        refine callX_bor (F14_ok ht9) (by simp only [borAs, bors, hp, List.getElem?_cons_zero, List.getElem?_cons_succ, Option.join_some, List.drop_zero, bor_full', true_and, Nat.zero_add, List.length_map, Nat.le_refl, nrm, List.length_cons, List.length_nil, Nat.reduceAdd, Nat.reduceLeDiff, List.take_succ_cons, List.take_zero, List.take_nil, List.map_cons, List.map_nil, List.length_set, EE.down]) rfl ?_
        simp only [VW.down, Nat.reduceEqDiff, reduceCtorEq, Nat.reduceAdd, Nat.reduceLeDiff, Nat.reduceLT, EE.down]
        refine guardSB (fun g10 => ?_) (fun g10 => ?_)
        · have h := (if_pos g10).symm.trans h
          simp only [VW.down, Nat.reduceEqDiff, reduceCtorEq, Nat.reduceAdd, Nat.reduceLeDiff, Nat.reduceLT, EE.down]
          refine t_bslice (enc := eImage) (ys := [(⟨(⟨#[97]⟩ : ByteArray), 12, 5⟩ : Image)]) rfl rfl (by simp [A1.cells]) rfl ?_
          simp only [VW.down, Nat.reduceEqDiff, reduceCtorEq, Nat.reduceAdd, Nat.reduceLeDiff, Nat.reduceLT, EE.down]
          obtain ⟨t11, ht11, h⟩ := Option.bind_eq_some_iff.1 h
          refine callX_bor (F10_ok ht11) (by simp only [borAs, bors, hp, List.getElem?_cons_zero, List.getElem?_cons_succ, Option.join_some, List.drop_zero, bor_full', true_and, Nat.zero_add, List.length_map, Nat.le_refl, nrm, List.length_cons, List.length_nil, Nat.reduceAdd, Nat.reduceLeDiff, List.take_succ_cons, List.take_zero, List.take_nil, List.map_cons, List.map_nil, List.length_set, EE.down]) rfl ?_
          simp only [VW.down, Nat.reduceEqDiff, reduceCtorEq, Nat.reduceAdd, Nat.reduceLeDiff, Nat.reduceLT, EE.down]
          obtain rfl := Option.some.inj h
          exact eM [] rfl
        · have h := (if_neg g10).symm.trans h
          simp only [VW.down, Nat.reduceEqDiff, reduceCtorEq, Nat.reduceAdd, Nat.reduceLeDiff, Nat.reduceLT, EE.down]
          obtain rfl := Option.some.inj h
          exact eM [] rfl
      · have h := (if_neg g8).symm.trans h
        simp only [VW.down, Nat.reduceEqDiff, reduceCtorEq, Nat.reduceAdd, Nat.reduceLeDiff, Nat.reduceLT, EE.down]
        obtain rfl := Option.some.inj h
        exact eM [] rfl
    · rintro _ rfl
      clear ho
      simp only [VW.down, Nat.reduceEqDiff, reduceCtorEq, Nat.reduceAdd, Nat.reduceLeDiff, Nat.reduceLT, EE.down]
      obtain rfl := Option.some.inj h
      exact eF []

/- orchestrator/orchestratorref52.clamp -/
def F21 (x0 : Int) (x1 : Int) (x2 : Int) : Option (Int) := (if x0 < x1 then some x1 else (if x2 < x0 then some x2 else some x0))
def a21 : AFn := ⟨16, [(.tmp 6)],
 (.seq (.reg [⟨(some 6), none, .mv (kI 0), [], true⟩])
 (.seq (.seq (.reg [⟨(some 7), none, .mv (.t 0), [], false⟩,
   ⟨(some 8), none, .mv (.t 1), [], false⟩,
   ⟨(some 9), none, .bin .lss (.t 7) (.t 8), [], false⟩])
 (.cond (.t 9)
 (.seq (.reg [⟨(some 10), none, .mv (.t 1), [], false⟩,
   ⟨(some 6), none, .mv (.t 10), [], false⟩])
 .ret)
 .skip))
 (.seq (.seq (.reg [⟨(some 11), none, .mv (.t 0), [], false⟩,
   ⟨(some 12), none, .mv (.t 2), [], false⟩,
   ⟨(some 13), none, .bin .gtr (.t 11) (.t 12), [], false⟩])
 (.cond (.t 13)
 (.seq (.reg [⟨(some 14), none, .mv (.t 2), [], false⟩,
   ⟨(some 6), none, .mv (.t 14), [], false⟩])
 .ret)
 .skip))
 (.seq (.reg [⟨(some 15), none, .mv (.t 0), [], false⟩,
   ⟨(some 6), none, .mv (.t 15), [], false⟩])
 .ret))))⟩
theorem a21_ok : afn Try.prog 21 = some a21.er := by kernel_rfl
theorem F21_ok {x0 : Int} {x1 : Int} {x2 : Int} {r : Int} (h : F21 x0 x1 x2 = some r) : CallD Try.prog 21 [.c (.d (.v (.int .i64 x0))), .c (.d (.v (.int .i64 x1))), .c (.d (.v (.int .i64 x2)))] [] (tupV [.c (.d (.v (.int .i64 r)))]) [] := by
  refine callS a21_ok (by simp [a21]) ?_
  rw [F21] at h
  simp only [a21, VW.down, Nat.reduceEqDiff, reduceCtorEq, Nat.reduceAdd, Nat.reduceLeDiff, Nat.reduceLT, EE.down]
  refine condS (fun c1 => ?_) (fun c1 => ?_)
  · have h := (if_pos c1).symm.trans h
    simp only [VW.down, Nat.reduceEqDiff, reduceCtorEq, Nat.reduceAdd, Nat.reduceLeDiff, Nat.reduceLT, EE.down]
    obtain rfl := Option.some.inj h
    exact eF []
  · have h := (if_neg c1).symm.trans h
    simp only [VW.down, Nat.reduceEqDiff, reduceCtorEq, Nat.reduceAdd, Nat.reduceLeDiff, Nat.reduceLT, EE.down]
    refine condS (fun c2 => ?_) (fun c2 => ?_)
    · have h := (if_pos c2).symm.trans h
      simp only [VW.down, Nat.reduceEqDiff, reduceCtorEq, Nat.reduceAdd, Nat.reduceLeDiff, Nat.reduceLT, EE.down]
      obtain rfl := Option.some.inj h
      exact eF []
    · have h := (if_neg c2).symm.trans h
      simp only [VW.down, Nat.reduceEqDiff, reduceCtorEq, Nat.reduceAdd, Nat.reduceLeDiff, Nat.reduceLT, EE.down]
      obtain rfl := Option.some.inj h
      exact eF []

/- orchestrator/orchestratorref52.Use -/
def F11_l3 (t1 : Int) (x1 : ByteArray) : List Image → Nat → Int → (List Image) → Bool → Option (Int × (List Image) × Bool)
  | [], o3_3, o3_0, o3_1, o3_2 => some ((o3_0, o3_1, o3_2))
  | xo3 :: xs, o3_3, o3_0, o3_1, o3_2 => (((if xo3.Name = x1 then (((if o3_0 < xo3.Used then some xo3.Used else some o3_0)).bind fun o7 => (apI o3_1 ([(⟨x1, t1, o7⟩ : Image)])).bind fun a9 => some ((o7, a9, true))) else (((((if (nb o3_2) = true then some (nb (Op.bytesLess xo3.Name.toList x1.toList || decide (xo3.Name = x1))) else some false)).bind fun o11 => (if o11 = true then (apI o3_1 ([(⟨x1, t1, o3_0⟩ : Image)])).bind fun a14 => some ((a14, true)) else some ((o3_1, o3_2))))).bind fun o10 => (apI o10.1 ([xo3])).bind fun a15 => some ((o3_0, a15, o10.2))))).bind fun o5 => F11_l3 t1 x1 xs (o3_3 + 1) o5.1 o5.2.1 o5.2.2)
def F11 (x0 : (List Image)) (x1 : ByteArray) (x2 : Int) (x3 : Int) : Option ((List Image)) := (F21 x2 0 1000000000000000).bind fun t1 => (F21 x3 0 1000000000000).bind fun t2 => (((ck (0 ≤ x0.length ∧ x0.length ≤ 4294967290)).bind fun u16 => F11_l3 t1 x1 x0 0 t2 ([]) false).bind fun o3 => (((if (nb o3.2.2) = true then (apI o3.2.1 ([(⟨x1, t1, o3.1⟩ : Image)])).bind fun a19 => some a19 else some o3.2.1)).bind fun o17 => (if 64 < (o17.length : Int) then some x0 else some o17)))
def a11 : AFn := ⟨83, [(.tmp 8)],
 (.seq (.reg [⟨(some 8), none, .mv kN, [], true⟩])
 (.seq (.reg [⟨(some 13), none, .mv (.t 1), [], false⟩,
   ⟨(some 14), none, .mv (.t 2), [], false⟩,
   ⟨(some 15), none, .call 21 [(.t 14), (kI 0), (kI 1000000000000000)], [], false⟩,
   ⟨(some 16), none, .mv (.t 3), [], false⟩,
   ⟨(some 17), none, .call 21 [(.t 16), (kI 0), (kI 1000000000000)], [], false⟩,
   ⟨(some 18), none, .build [.d (.v (.string ⟨#[]⟩)), .d (.v (.int .i64 0)), .d (.v (.int .i64 0))] [(0, 1, (.t 13)), (1, 1, (.t 15)), (2, 1, (.t 17))], [], false⟩,
   ⟨(some 9), none, .zbox [.d (.v (.string ⟨#[]⟩)), .d (.v (.int .i64 0)), .d (.v (.int .i64 0))], [], false⟩,
   ⟨none, none, .store 3 (.t 9) (.t 18), [], false⟩])
 (.seq (.reg [⟨(some 10), none, .mv kN, [], true⟩])
 (.seq (.reg [⟨(some 11), none, .mv (kB false), [], true⟩])
 (.seq (.seq (.reg [⟨(some 12), none, .mv (kI 0), [], true⟩])
 (.sem (.block 0 (.loop (.seq (.seq (.reg [⟨(some 19), none, .mv (.t 12), [], false⟩,
   ⟨(some 20), none, .mv (.t 0), [], false⟩,
   ⟨(some 21), none, .len (.t 20), [], false⟩,
   ⟨(some 22), none, .bin .lss (.t 19) (.t 21), [], false⟩])
 (.cond (.t 22)
 .skip
 (.exit 0)))
 (.seq (.sem (.block 1 (.seq (.seq (.reg [⟨(some 25), none, .mv (.t 0), [], false⟩,
   ⟨(some 26), none, .mv (.t 12), [], false⟩,
   ⟨(some 27), none, .indexA 3 (.t 25) (.t 26), [], false⟩,
   ⟨(some 28), none, .fieldA 0 (.t 27), [], false⟩,
   ⟨(some 29), none, .load none (.t 28), [], false⟩,
   ⟨(some 30), none, .mv (.t 1), [], false⟩,
   ⟨(some 31), none, .bin .eql (.t 29) (.t 30), [], false⟩])
 (.cond (.t 31)
 (.seq (.sem (.seq (.regd [⟨(some 32), none, .mv (.t 0), [], false⟩,
   ⟨(some 33), none, .mv (.t 12), [], false⟩,
   ⟨(some 34), none, .indexA 3 (.t 32) (.t 33), [0, 1], false⟩,
   ⟨(some 35), none, .fieldA 2 (.t 34), [0, 1, 2], false⟩,
   ⟨(some 36), none, .load none (.t 35), [0, 1, 2, 3], false⟩,
   ⟨(some 37), none, .fieldA 2 (.t 9), [], false⟩,
   ⟨(some 38), none, .load none (.t 37), [5], false⟩,
   ⟨(some 39), none, .bin .gtr (.t 36) (.t 38), [0, 1, 2, 3, 4, 5, 6], true⟩])
 (.cond (.t 39)
 (.reg [⟨(some 40), none, .mv (.t 0), [], false⟩,
   ⟨(some 41), none, .mv (.t 12), [], false⟩,
   ⟨(some 42), none, .indexA 3 (.t 40) (.t 41), [], false⟩,
   ⟨(some 43), none, .fieldA 2 (.t 42), [], false⟩,
   ⟨(some 44), none, .load none (.t 43), [], false⟩,
   ⟨(some 45), none, .fieldA 2 (.t 9), [], false⟩,
   ⟨none, none, .store 1 (.t 45) (.t 44), [], false⟩])
 .skip)))
 (.seq (.reg [⟨(some 46), none, .mv (.t 10), [], false⟩,
   ⟨(some 47), none, .load (some 3) (.t 9), [], false⟩,
   ⟨(some 48), none, .bslice 3 [(.t 47)], [], false⟩,
   ⟨(some 49), none, .app 3 32 (.t 46) (.t 48), [], false⟩,
   ⟨(some 10), none, .mv (.t 49), [], false⟩])
 (.seq (.reg [⟨(some 11), none, .mv (kB true), [], true⟩])
 (.exit 1))))
 .skip))
 (.seq (.sem (.seq (.sem (.reg [⟨(some 50), none, .mv (.t 11), [], false⟩,
   ⟨(some 51), none, .not (.t 50), [], false⟩,
   ⟨(some 52), none, .mv (.t 51), [], false⟩,
   ⟨(some 53), (some (52, true)), .mv (.t 0), [], false⟩,
   ⟨(some 54), (some (52, true)), .mv (.t 12), [], false⟩,
   ⟨(some 55), (some (52, true)), .indexA 3 (.t 53) (.t 54), [], false⟩,
   ⟨(some 56), (some (52, true)), .fieldA 0 (.t 55), [], false⟩,
   ⟨(some 57), (some (52, true)), .load none (.t 56), [], false⟩,
   ⟨(some 58), (some (52, true)), .mv (.t 1), [], false⟩,
   ⟨(some 59), (some (52, true)), .bin .gtr (.t 57) (.t 58), [], false⟩,
   ⟨(some 60), none, .pick (.t 52) (.t 59) (kB false), [], false⟩]))
 (.cond (.t 60)
 (.seq (.reg [⟨(some 61), none, .mv (.t 10), [], false⟩,
   ⟨(some 62), none, .load (some 3) (.t 9), [], false⟩,
   ⟨(some 63), none, .bslice 3 [(.t 62)], [], false⟩,
   ⟨(some 64), none, .app 3 32 (.t 61) (.t 63), [], false⟩,
   ⟨(some 10), none, .mv (.t 64), [], false⟩])
 (.reg [⟨(some 11), none, .mv (kB true), [], true⟩]))
 .skip)))
 (.reg [⟨(some 65), none, .mv (.t 10), [], false⟩,
   ⟨(some 66), none, .mv (.t 0), [], false⟩,
   ⟨(some 67), none, .mv (.t 12), [], false⟩,
   ⟨(some 68), none, .indexA 3 (.t 66) (.t 67), [], false⟩,
   ⟨(some 69), none, .load (some 3) (.t 68), [], false⟩,
   ⟨(some 70), none, .bslice 3 [(.t 69)], [], false⟩,
   ⟨(some 71), none, .app 3 32 (.t 65) (.t 70), [], false⟩,
   ⟨(some 10), none, .mv (.t 71), [], false⟩])))))
 (.reg [⟨(some 23), none, .mv (.t 12), [], false⟩,
   ⟨(some 24), none, .bin .add (.t 23) (kI 1), [], false⟩,
   ⟨(some 12), none, .mv (.t 24), [], false⟩])))))))
 (.seq (.sem (.seq (.reg [⟨(some 72), none, .mv (.t 11), [], false⟩,
   ⟨(some 73), none, .not (.t 72), [], false⟩])
 (.cond (.t 73)
 (.reg [⟨(some 74), none, .mv (.t 10), [], false⟩,
   ⟨(some 75), none, .load (some 3) (.t 9), [], false⟩,
   ⟨(some 76), none, .bslice 3 [(.t 75)], [], false⟩,
   ⟨(some 77), none, .app 3 32 (.t 74) (.t 76), [], false⟩,
   ⟨(some 10), none, .mv (.t 77), [], false⟩])
 .skip)))
 (.seq (.seq (.reg [⟨(some 78), none, .mv (.t 10), [], false⟩,
   ⟨(some 79), none, .len (.t 78), [], false⟩,
   ⟨(some 80), none, .bin .gtr (.t 79) (kI 64), [], false⟩])
 (.cond (.t 80)
 (.seq (.reg [⟨(some 81), none, .mv (.t 0), [], false⟩,
   ⟨(some 8), none, .mv (.t 81), [], false⟩])
 .ret)
 .skip))
 (.seq (.reg [⟨(some 82), none, .mv (.t 10), [], false⟩,
   ⟨(some 8), none, .mv (.t 82), [], false⟩])
 .ret))))))))⟩
theorem a11_ok : afn Try.prog 11 = some a11.er := by kernel_rfl
theorem F11_ok {x0 : (List Image)} {x1 : ByteArray} {x2 : Int} {x3 : Int} {r : (List Image)} (h : F11 x0 x1 x2 x3 = some r) : CallD Try.prog 11 [.c (.d (.sl (x0.map eImage))), .c (.d (.v (.string x1))), .c (.d (.v (.int .i64 x2))), .c (.d (.v (.int .i64 x3)))] [] (tupV [.c (.d (.sl (r.map eImage)))]) [] := by
  refine callS a11_ok (by simp [a11]) ?_
  rw [F11] at h
  simp only [a11, VW.down, Nat.reduceEqDiff, reduceCtorEq, Nat.reduceAdd, Nat.reduceLeDiff, Nat.reduceLT, EE.down]
  obtain ⟨t1, ht1, h⟩ := Option.bind_eq_some_iff.1 h
  refine callX_n [] (F21_ok ht1) ?_ ?_ ?_ ?_ ?_ ?_
  · first | rfl | simp [nrmA, nrmC, nrm, A1.ren, C.ren, rn, List.length_set]
  · simp [liveAll, A1.live, C.live]
  · rfl
  · decide
  · exact trivial
  simp only [VW.down, Nat.reduceEqDiff, reduceCtorEq, Nat.reduceAdd, Nat.reduceLeDiff, Nat.reduceLT, EE.down]
  obtain ⟨t2, ht2, h⟩ := Option.bind_eq_some_iff.1 h
  refine callX_n [] (F21_ok ht2) ?_ ?_ ?_ ?_ ?_ ?_
  · first | rfl | simp [nrmA, nrmC, nrm, A1.ren, C.ren, rn, List.length_set]
  · simp [liveAll, A1.live, C.live]
  · rfl
  · decide
  · exact trivial
  simp only [VW.down, Nat.reduceEqDiff, reduceCtorEq, Nat.reduceAdd, Nat.reduceLeDiff, Nat.reduceLT, EE.down]
  obtain ⟨o3, ho, h⟩ := Option.bind_eq_some_iff.1 h
  refine cutS (fun s => s = ⟨[(0, .one (.c (.d (.sl (x0.map eImage))))), (9, .one (.c (.pt 0 0))), (10, .one (.c (.own 1 0 0 (o3.2.1.length) none))), (11, .one (.c (.d (.v (.bool o3.2.2)))))], [some (.box [.d (.v (.string x1)), .d (.v (.int .i64 t1)), .d (.v (.int .i64 o3.1))]), some (.arr 0 3 (o3.2.1.map eImage))]⟩) ?_ ?_
  · have h := ho
    clear ho
    obtain ⟨_, hk, h⟩ := Option.bind_eq_some_iff.1 h
    have hk := ck_some hk
    simp only [VW.down, Nat.reduceEqDiff, reduceCtorEq, Nat.reduceAdd, Nat.reduceLeDiff, Nat.reduceLT, EE.down]
    refine bL (fun j s => ∃ (o3_3 : Nat) (o3_0 : Int) (o3_1 : List Image) (o3_2 : Bool), (o3_3 ≤ x0.length ∧ j = x0.length - o3_3) ∧ s = ⟨[(0, .one (.c (.d (.sl (x0.map eImage))))), (1, .one (.c (.d (.v (.string x1))))), (9, .one (.c (.pt 0 0))), (10, .one (.c (.own 1 0 0 (o3_1.length) none))), (11, .one (.c (.d (.v (.bool o3_2))))), (12, .one (.c (.d (.v (.int .i64 ((o3_3 : Int)))))))], [some (.box [.d (.v (.string x1)), .d (.v (.int .i64 t1)), .d (.v (.int .i64 o3_0))]), some (.arr 0 3 (o3_1.map eImage))]⟩ ∧ F11_l3 t1 x1 (x0.drop o3_3) o3_3 o3_0 o3_1 o3_2 = some o3) (x0.length - 0) [some 0, none] ⟨0, t2, [], false, ⟨hk.1, rfl⟩, rfl, h⟩ ?_
    rintro _ _ ⟨o3_3, o3_0, o3_1, o3_2, ⟨hi, rfl⟩, rfl, h⟩
    simp only [VW.down, Nat.reduceEqDiff, reduceCtorEq, Nat.reduceAdd, Nat.reduceLeDiff, Nat.reduceLT, EE.down]
    refine condS (fun c4 => ?_) (fun c4 => ?_)
    · obtain ⟨xo3, hxo3, hd⟩ := countY c4
      rw [hd, F11_l3] at h
      simp only [VW.down, Nat.reduceEqDiff, reduceCtorEq, Nat.reduceAdd, Nat.reduceLeDiff, Nat.reduceLT, EE.down]
      obtain ⟨o5, ho, h⟩ := Option.bind_eq_some_iff.1 h
      refine cutS (fun s => s = ⟨[(0, .one (.c (.d (.sl (x0.map eImage))))), (1, .one (.c (.d (.v (.string x1))))), (9, .one (.c (.pt 0 0))), (10, .one (.c (.own 1 0 0 (o5.2.1.length) none))), (11, .one (.c (.d (.v (.bool o5.2.2))))), (12, .one (.c (.d (.v (.int .i64 ((o3_3 : Int)))))))], [some (.box [.d (.v (.string x1)), .d (.v (.int .i64 t1)), .d (.v (.int .i64 o5.1))]), some (.arr 0 3 (o5.2.1.map eImage))]⟩) ?_ ?_
      · have h := ho
        clear ho
        simp only [VW.down, Nat.reduceEqDiff, reduceCtorEq, Nat.reduceAdd, Nat.reduceLeDiff, Nat.reduceLT, EE.down]
        refine t_idxF (enc := eImage) (xs := x0) rfl rfl hxo3 rfl ?_
        simp only [VW.down, Nat.reduceEqDiff, reduceCtorEq, Nat.reduceAdd, Nat.reduceLeDiff, Nat.reduceLT, EE.down]
        refine condS (fun c6 => ?_) (fun c6 => ?_)
        · have h := (if_pos c6).symm.trans h
          simp only [VW.down, Nat.reduceEqDiff, reduceCtorEq, Nat.reduceAdd, Nat.reduceLeDiff, Nat.reduceLT, EE.down]
          obtain ⟨o7, ho, h⟩ := Option.bind_eq_some_iff.1 h
          refine cutS (fun s => s = ⟨[(0, .one (.c (.d (.sl (x0.map eImage))))), (1, .one (.c (.d (.v (.string x1))))), (9, .one (.c (.pt 0 0))), (10, .one (.c (.own 1 0 0 (o3_1.length) none))), (12, .one (.c (.d (.v (.int .i64 ((o3_3 : Int)))))))], [some (.box [.d (.v (.string x1)), .d (.v (.int .i64 t1)), .d (.v (.int .i64 o7))]), some (.arr 0 3 (o3_1.map eImage))]⟩) ?_ ?_
          · have h := ho
            clear ho
            simp only [VW.down, Nat.reduceEqDiff, reduceCtorEq, Nat.reduceAdd, Nat.reduceLeDiff, Nat.reduceLT, EE.down]
            refine t_idxF (enc := eImage) (xs := x0) rfl rfl hxo3 rfl ?_
            simp only [VW.down, Nat.reduceEqDiff, reduceCtorEq, Nat.reduceAdd, Nat.reduceLeDiff, Nat.reduceLT, EE.down]
            refine condS (fun c8 => ?_) (fun c8 => ?_)
            · have h := (if_pos c8).symm.trans h
              simp only [VW.down, Nat.reduceEqDiff, reduceCtorEq, Nat.reduceAdd, Nat.reduceLeDiff, Nat.reduceLT, EE.down]
              refine t_idxF (enc := eImage) (xs := x0) rfl rfl hxo3 rfl ?_
              simp only [VW.down, Nat.reduceEqDiff, reduceCtorEq, Nat.reduceAdd, Nat.reduceLeDiff, Nat.reduceLT, EE.down]
              obtain rfl := Option.some.inj h
              exact eM [some 0, some 1] rfl
            · have h := (if_neg c8).symm.trans h
              simp only [VW.down, Nat.reduceEqDiff, reduceCtorEq, Nat.reduceAdd, Nat.reduceLeDiff, Nat.reduceLT, EE.down]
              obtain rfl := Option.some.inj h
              exact eM [some 0, some 1] rfl
          · rintro _ rfl
            clear ho
            simp only [VW.down, Nat.reduceEqDiff, reduceCtorEq, Nat.reduceAdd, Nat.reduceLeDiff, Nat.reduceLT, EE.down]
            refine t_bslice (enc := eImage) (ys := [(⟨x1, t1, o7⟩ : Image)]) rfl rfl (by simp [A1.cells]) rfl ?_
            simp only [VW.down, Nat.reduceEqDiff, reduceCtorEq, Nat.reduceAdd, Nat.reduceLeDiff, Nat.reduceLT, EE.down]
            obtain ⟨a9, ha9, h⟩ := Option.bind_eq_some_iff.1 h
            refine t_app (enc := eImage) (xs := o3_1) rfl rfl (by first | rfl | simp only [List.length_set]) rfl (rows_full (enc := eImage) (by first | rfl | simp only [List.length_set]) rfl) ha9 ?_
            simp only [VW.down, Nat.reduceEqDiff, reduceCtorEq, Nat.reduceAdd, Nat.reduceLeDiff, Nat.reduceLT, EE.down]
            obtain rfl := Option.some.inj h
            exact eM [some 0, some 1] rfl
        · have h := (if_neg c6).symm.trans h
          simp only [VW.down, Nat.reduceEqDiff, reduceCtorEq, Nat.reduceAdd, Nat.reduceLeDiff, Nat.reduceLT, EE.down]
          obtain ⟨o10, ho, h⟩ := Option.bind_eq_some_iff.1 h
          refine cutS (fun s => s = ⟨[(0, .one (.c (.d (.sl (x0.map eImage))))), (1, .one (.c (.d (.v (.string x1))))), (9, .one (.c (.pt 0 0))), (10, .one (.c (.own 1 0 0 (o10.1.length) none))), (11, .one (.c (.d (.v (.bool o10.2))))), (12, .one (.c (.d (.v (.int .i64 ((o3_3 : Int)))))))], [some (.box [.d (.v (.string x1)), .d (.v (.int .i64 t1)), .d (.v (.int .i64 o3_0))]), some (.arr 0 3 (o10.1.map eImage))]⟩) ?_ ?_
          · have h := ho
            clear ho
            simp only [VW.down, Nat.reduceEqDiff, reduceCtorEq, Nat.reduceAdd, Nat.reduceLeDiff, Nat.reduceLT, EE.down]
            obtain ⟨o11, ho, h⟩ := Option.bind_eq_some_iff.1 h
            refine cutS (fun s => s = ⟨[(0, .one (.c (.d (.sl (x0.map eImage))))), (1, .one (.c (.d (.v (.string x1))))), (9, .one (.c (.pt 0 0))), (10, .one (.c (.own 1 0 0 (o3_1.length) none))), (11, .one (.c (.d (.v (.bool o3_2))))), (12, .one (.c (.d (.v (.int .i64 ((o3_3 : Int))))))), (60, .one (.c (.d (.v (.bool o11)))))], [some (.box [.d (.v (.string x1)), .d (.v (.int .i64 t1)), .d (.v (.int .i64 o3_0))]), some (.arr 0 3 (o3_1.map eImage))]⟩) ?_ ?_
            · have h := ho
              clear ho
              simp only [VW.down, Nat.reduceEqDiff, reduceCtorEq, Nat.reduceAdd, Nat.reduceLeDiff, Nat.reduceLT, EE.down]
              refine guardSB (fun g12 => ?_) (fun g12 => ?_)
              · have h := (if_pos g12).symm.trans h
                simp only [VW.down, Nat.reduceEqDiff, reduceCtorEq, Nat.reduceAdd, Nat.reduceLeDiff, Nat.reduceLT, EE.down]
                refine t_idxF (enc := eImage) (xs := x0) rfl rfl hxo3 rfl ?_
                simp only [VW.down, Nat.reduceEqDiff, reduceCtorEq, Nat.reduceAdd, Nat.reduceLeDiff, Nat.reduceLT, EE.down]
                obtain rfl := Option.some.inj h
                exact eM [some 0, some 1] rfl
              · have h := (if_neg g12).symm.trans h
                simp only [VW.down, Nat.reduceEqDiff, reduceCtorEq, Nat.reduceAdd, Nat.reduceLeDiff, Nat.reduceLT, EE.down]
                obtain rfl := Option.some.inj h
                exact eM [some 0, some 1] rfl
            · rintro _ rfl
              clear ho
              simp only [VW.down, Nat.reduceEqDiff, reduceCtorEq, Nat.reduceAdd, Nat.reduceLeDiff, Nat.reduceLT, EE.down]
              refine condB (fun c13 => ?_) (fun c13 => ?_)
              · have h := (if_pos c13).symm.trans h
                simp only [VW.down, Nat.reduceEqDiff, reduceCtorEq, Nat.reduceAdd, Nat.reduceLeDiff, Nat.reduceLT, EE.down]
                refine t_bslice (enc := eImage) (ys := [(⟨x1, t1, o3_0⟩ : Image)]) rfl rfl (by simp [A1.cells]) rfl ?_
                simp only [VW.down, Nat.reduceEqDiff, reduceCtorEq, Nat.reduceAdd, Nat.reduceLeDiff, Nat.reduceLT, EE.down]
                obtain ⟨a14, ha14, h⟩ := Option.bind_eq_some_iff.1 h
                refine t_app (enc := eImage) (xs := o3_1) rfl rfl (by first | rfl | simp only [List.length_set]) rfl (rows_full (enc := eImage) (by first | rfl | simp only [List.length_set]) rfl) ha14 ?_
                simp only [VW.down, Nat.reduceEqDiff, reduceCtorEq, Nat.reduceAdd, Nat.reduceLeDiff, Nat.reduceLT, EE.down]
                obtain rfl := Option.some.inj h
                exact eM [some 0, some 1] rfl
              · have h := (if_neg c13).symm.trans h
                simp only [VW.down, Nat.reduceEqDiff, reduceCtorEq, Nat.reduceAdd, Nat.reduceLeDiff, Nat.reduceLT, EE.down]
                obtain rfl := Option.some.inj h
                exact eM [some 0, some 1] rfl
          · rintro _ rfl
            clear ho
            simp only [VW.down, Nat.reduceEqDiff, reduceCtorEq, Nat.reduceAdd, Nat.reduceLeDiff, Nat.reduceLT, EE.down]
            refine t_idxF (enc := eImage) (xs := x0) rfl rfl hxo3 rfl ?_
            simp only [VW.down, Nat.reduceEqDiff, reduceCtorEq, Nat.reduceAdd, Nat.reduceLeDiff, Nat.reduceLT, EE.down]
            refine t_bslice (enc := eImage) (ys := [xo3]) rfl rfl (by simp [A1.cells]) rfl ?_
            simp only [VW.down, Nat.reduceEqDiff, reduceCtorEq, Nat.reduceAdd, Nat.reduceLeDiff, Nat.reduceLT, EE.down]
            obtain ⟨a15, ha15, h⟩ := Option.bind_eq_some_iff.1 h
            refine t_app (enc := eImage) (xs := o10.1) rfl rfl (by first | rfl | simp only [List.length_set]) rfl (rows_full (enc := eImage) (by first | rfl | simp only [List.length_set]) rfl) ha15 ?_
            simp only [VW.down, Nat.reduceEqDiff, reduceCtorEq, Nat.reduceAdd, Nat.reduceLeDiff, Nat.reduceLT, EE.down]
            obtain rfl := Option.some.inj h
            exact eM [some 0, some 1] rfl
      · rintro _ rfl
        clear ho
        simp only [VW.down, Nat.reduceEqDiff, reduceCtorEq, Nat.reduceAdd, Nat.reduceLeDiff, Nat.reduceLT, EE.down]
        rw [wrapN (by omega)]
        exact eL' (x0.length - (o3_3 + 1)) [some 0, some 1] ⟨o3_3 + 1, o5.1, o5.2.1, o5.2.2, ⟨by omega, rfl⟩, rfl, h⟩ (by omega)
    · rw [countN c4, F11_l3] at h
      simp only [VW.down, Nat.reduceEqDiff, reduceCtorEq, Nat.reduceAdd, Nat.reduceLeDiff, Nat.reduceLT, EE.down]
      obtain rfl := Option.some.inj h
      exact eM [some 0, some 1] rfl
  · rintro _ rfl
    clear ho
    simp only [VW.down, Nat.reduceEqDiff, reduceCtorEq, Nat.reduceAdd, Nat.reduceLeDiff, Nat.reduceLT, EE.down]
    obtain ⟨o17, ho, h⟩ := Option.bind_eq_some_iff.1 h
    refine cutS (fun s => s = ⟨[(0, .one (.c (.d (.sl (x0.map eImage))))), (10, .one (.c (.own 0 0 0 (o17.length) none)))], [some (.arr 0 3 (o17.map eImage))]⟩) ?_ ?_
    · have h := ho
      clear ho
      simp only [VW.down, Nat.reduceEqDiff, reduceCtorEq, Nat.reduceAdd, Nat.reduceLeDiff, Nat.reduceLT, EE.down]
      refine condB (fun c18 => ?_) (fun c18 => ?_)
      · have h := (if_pos c18).symm.trans h
        simp only [VW.down, Nat.reduceEqDiff, reduceCtorEq, Nat.reduceAdd, Nat.reduceLeDiff, Nat.reduceLT, EE.down]
        refine t_bslice (enc := eImage) (ys := [(⟨x1, t1, o3.1⟩ : Image)]) rfl rfl (by simp [A1.cells]) rfl ?_
        simp only [VW.down, Nat.reduceEqDiff, reduceCtorEq, Nat.reduceAdd, Nat.reduceLeDiff, Nat.reduceLT, EE.down]
        obtain ⟨a19, ha19, h⟩ := Option.bind_eq_some_iff.1 h
        refine t_app (enc := eImage) (xs := o3.2.1) rfl rfl (by first | rfl | simp only [List.length_set]) rfl (rows_full (enc := eImage) (by first | rfl | simp only [List.length_set]) rfl) ha19 ?_
        simp only [VW.down, Nat.reduceEqDiff, reduceCtorEq, Nat.reduceAdd, Nat.reduceLeDiff, Nat.reduceLT, EE.down]
        obtain rfl := Option.some.inj h
        exact eM [some 1] rfl
      · have h := (if_neg c18).symm.trans h
        simp only [VW.down, Nat.reduceEqDiff, reduceCtorEq, Nat.reduceAdd, Nat.reduceLeDiff, Nat.reduceLT, EE.down]
        obtain rfl := Option.some.inj h
        exact eM [some 1] rfl
    · rintro _ rfl
      clear ho
      simp only [VW.down, Nat.reduceEqDiff, reduceCtorEq, Nat.reduceAdd, Nat.reduceLeDiff, Nat.reduceLT, EE.down]
      refine condS (fun c20 => ?_) (fun c20 => ?_)
      · have h := (if_pos c20).symm.trans h
        simp only [VW.down, Nat.reduceEqDiff, reduceCtorEq, Nat.reduceAdd, Nat.reduceLeDiff, Nat.reduceLT, EE.down]
        obtain rfl := Option.some.inj h
        exact eF []
      · have h := (if_neg c20).symm.trans h
        simp only [VW.down, Nat.reduceEqDiff, reduceCtorEq, Nat.reduceAdd, Nat.reduceLeDiff, Nat.reduceLT, EE.down]
        obtain rfl := Option.some.inj h
        exact eF []

/- orchestrator/orchestratorlaw52.ImageUses -/
def F3 (x0 : (List Image)) (x1 : ByteArray) (x2 : Int) (x3 : Int) : Option (Bool) := (F7 x0).bind fun t1 => (if (nb t1) = true then (F8).bind fun t3 => some t3 else (F9 x0 x1 x2 x3).bind fun t4 => (((F11 x0 x1 x2 x3).bind fun t6 => (F10 t4 t6).bind fun t7 => (if (nb t7) = true then some true else (F7 t4).bind fun t9 => some (nb t9))).bind fun o5 => (if o5 = true then some false else (((F9 t4 x1 x2 x3).bind fun t12 => (F10 t12 t4).bind fun t13 => (if t13 = true then (F8).bind fun t15 => some t15 else some false)).bind fun o11 => some o11))))
def a3 : AFn := ⟨42, [(.tmp 8)],
 (.seq (.reg [⟨(some 8), none, .mv (kB false), [], true⟩])
 (.seq (.seq (.reg [⟨(some 10), none, .mv (.t 0), [], false⟩,
   ⟨(some 11), none, .call 7 [(.t 10)], [], false⟩,
   ⟨(some 12), none, .not (.t 11), [], false⟩])
 (.cond (.t 12)
 (.seq (.reg [⟨(some 13), none, .call 8 [], [], false⟩,
   ⟨(some 8), none, .mv (.t 13), [], false⟩])
 .ret)
 .skip))
 (.seq (.reg [⟨(some 14), none, .mv (.t 0), [], false⟩,
   ⟨(some 15), none, .mv (.t 1), [], false⟩,
   ⟨(some 16), none, .mv (.t 2), [], false⟩,
   ⟨(some 17), none, .mv (.t 3), [], false⟩,
   ⟨(some 18), none, .call 9 [(.t 14), (.t 15), (.t 16), (.t 17)], [], false⟩,
   ⟨(some 9), none, .mv (.t 18), [], false⟩])
 (.seq (.seq (.sem (.reg [⟨(some 19), none, .mv (.t 9), [], false⟩,
   ⟨(some 20), none, .mv (.t 0), [], false⟩,
   ⟨(some 21), none, .mv (.t 1), [], false⟩,
   ⟨(some 22), none, .mv (.t 2), [], false⟩,
   ⟨(some 23), none, .mv (.t 3), [], false⟩,
   ⟨(some 24), none, .call 11 [(.t 20), (.t 21), (.t 22), (.t 23)], [], false⟩,
   ⟨(some 25), none, .call 10 [(.t 19), (.t 24)], [], false⟩,
   ⟨(some 26), none, .not (.t 25), [], false⟩,
   ⟨(some 27), none, .mv (.t 26), [], false⟩,
   ⟨(some 28), (some (27, false)), .mv (.t 9), [], false⟩,
   ⟨(some 29), (some (27, false)), .call 7 [(.t 28)], [], false⟩,
   ⟨(some 30), (some (27, false)), .not (.t 29), [], false⟩,
   ⟨(some 31), none, .pick (.t 27) (kB true) (.t 30), [], false⟩]))
 (.cond (.t 31)
 (.seq (.reg [⟨(some 8), none, .mv (kB false), [], true⟩])
 .ret)
 .skip))
 (.seq (.sem (.reg [⟨(some 32), none, .mv (.t 9), [], false⟩,
   ⟨(some 33), none, .mv (.t 1), [], false⟩,
   ⟨(some 34), none, .mv (.t 2), [], false⟩,
   ⟨(some 35), none, .mv (.t 3), [], false⟩,
   ⟨(some 36), none, .call 9 [(.t 32), (.t 33), (.t 34), (.t 35)], [], false⟩,
   ⟨(some 37), none, .mv (.t 9), [], false⟩,
   ⟨(some 38), none, .call 10 [(.t 36), (.t 37)], [], false⟩,
   ⟨(some 39), none, .mv (.t 38), [], false⟩,
   ⟨(some 40), (some (39, true)), .call 8 [], [], false⟩,
   ⟨(some 41), none, .pick (.t 39) (.t 40) (kB false), [], false⟩,
   ⟨(some 8), none, .mv (.t 41), [], false⟩]))
 .ret)))))⟩
theorem a3_ok : afn Try.prog 3 = some a3.er := by kernel_rfl
theorem F3_ok {x0 : (List Image)} {x1 : ByteArray} {x2 : Int} {x3 : Int} {r : Bool} (h : F3 x0 x1 x2 x3 = some r) : CallD Try.prog 3 [.c (.d (.sl (x0.map eImage))), .c (.d (.v (.string x1))), .c (.d (.v (.int .i64 x2))), .c (.d (.v (.int .i64 x3)))] [] (tupV [.c (.d (.v (.bool r)))]) [] := by
  refine callS a3_ok (by simp [a3]) ?_
  rw [F3] at h
  simp only [a3, VW.down, Nat.reduceEqDiff, reduceCtorEq, Nat.reduceAdd, Nat.reduceLeDiff, Nat.reduceLT, EE.down]
  obtain ⟨t1, ht1, h⟩ := Option.bind_eq_some_iff.1 h
  refine callX_n [] (F7_ok ht1) ?_ ?_ ?_ ?_ ?_ ?_
  · first | rfl | simp [nrmA, nrmC, nrm, A1.ren, C.ren, rn, List.length_set]
  · simp [liveAll, A1.live, C.live]
  · rfl
  · decide
  · exact trivial
  simp only [VW.down, Nat.reduceEqDiff, reduceCtorEq, Nat.reduceAdd, Nat.reduceLeDiff, Nat.reduceLT, EE.down]
  refine condB (fun c2 => ?_) (fun c2 => ?_)
  · have h := (if_pos c2).symm.trans h
    simp only [VW.down, Nat.reduceEqDiff, reduceCtorEq, Nat.reduceAdd, Nat.reduceLeDiff, Nat.reduceLT, EE.down]
    obtain ⟨t3, ht3, h⟩ := Option.bind_eq_some_iff.1 h
    refine callX_n [] (F8_ok ht3) ?_ ?_ ?_ ?_ ?_ ?_
    · first | rfl | simp [nrmA, nrmC, nrm, A1.ren, C.ren, rn, List.length_set]
    · simp [liveAll, A1.live, C.live]
    · rfl
    · decide
    · exact trivial
    simp only [VW.down, Nat.reduceEqDiff, reduceCtorEq, Nat.reduceAdd, Nat.reduceLeDiff, Nat.reduceLT, EE.down]
    obtain rfl := Option.some.inj h
    exact eF []
  · have h := (if_neg c2).symm.trans h
    simp only [VW.down, Nat.reduceEqDiff, reduceCtorEq, Nat.reduceAdd, Nat.reduceLeDiff, Nat.reduceLT, EE.down]
    obtain ⟨t4, ht4, h⟩ := Option.bind_eq_some_iff.1 h
    refine callX_n [] (F9_ok ht4) ?_ ?_ ?_ ?_ ?_ ?_
    · first | rfl | simp [nrmA, nrmC, nrm, A1.ren, C.ren, rn, List.length_set]
    · simp [liveAll, A1.live, C.live]
    · rfl
    · decide
    · exact trivial
    simp only [VW.down, Nat.reduceEqDiff, reduceCtorEq, Nat.reduceAdd, Nat.reduceLeDiff, Nat.reduceLT, EE.down]
    obtain ⟨o5, ho, h⟩ := Option.bind_eq_some_iff.1 h
    refine cutS (fun s => s = ⟨[(1, .one (.c (.d (.v (.string x1))))), (2, .one (.c (.d (.v (.int .i64 x2))))), (3, .one (.c (.d (.v (.int .i64 x3))))), (9, .one (.c (.d (.sl (t4.map eImage))))), (31, .one (.c (.d (.v (.bool o5)))))], []⟩) ?_ ?_
    · have h := ho
      clear ho
      simp only [VW.down, Nat.reduceEqDiff, reduceCtorEq, Nat.reduceAdd, Nat.reduceLeDiff, Nat.reduceLT, EE.down]
      obtain ⟨t6, ht6, h⟩ := Option.bind_eq_some_iff.1 h
      refine callX_n [] (F11_ok ht6) ?_ ?_ ?_ ?_ ?_ ?_
      · first | rfl | simp [nrmA, nrmC, nrm, A1.ren, C.ren, rn, List.length_set]
      · simp [liveAll, A1.live, C.live]
      · rfl
      · decide
      · exact trivial
      simp only [VW.down, Nat.reduceEqDiff, reduceCtorEq, Nat.reduceAdd, Nat.reduceLeDiff, Nat.reduceLT, EE.down]
      obtain ⟨t7, ht7, h⟩ := Option.bind_eq_some_iff.1 h
      refine callX_bor (F10_ok ht7) (by simp only [borAs, bors, hp, List.getElem?_cons_zero, List.getElem?_cons_succ, Option.join_some, List.drop_zero, bor_full', true_and, Nat.zero_add, List.length_map, Nat.le_refl, nrm, List.length_cons, List.length_nil, Nat.reduceAdd, Nat.reduceLeDiff, List.take_succ_cons, List.take_zero, List.take_nil, List.map_cons, List.map_nil, List.length_set, EE.down]) rfl ?_
      simp only [VW.down, Nat.reduceEqDiff, reduceCtorEq, Nat.reduceAdd, Nat.reduceLeDiff, Nat.reduceLT, EE.down]
      refine guardSB (fun g8 => ?_) (fun g8 => ?_)
      · have h := (if_pos g8).symm.trans h
        simp only [VW.down, Nat.reduceEqDiff, reduceCtorEq, Nat.reduceAdd, Nat.reduceLeDiff, Nat.reduceLT, EE.down]
        obtain rfl := Option.some.inj h
        exact eM [] rfl
      · have h := (if_neg g8).symm.trans h
        simp only [VW.down, Nat.reduceEqDiff, reduceCtorEq, Nat.reduceAdd, Nat.reduceLeDiff, Nat.reduceLT, EE.down]
        obtain ⟨t9, ht9, h⟩ := Option.bind_eq_some_iff.1 h
        refine callX_bor (F7_ok ht9) (by simp only [borAs, bors, hp, List.getElem?_cons_zero, List.getElem?_cons_succ, Option.join_some, List.drop_zero, bor_full', true_and, Nat.zero_add, List.length_map, Nat.le_refl, nrm, List.length_cons, List.length_nil, Nat.reduceAdd, Nat.reduceLeDiff, List.take_succ_cons, List.take_zero, List.take_nil, List.map_cons, List.map_nil, List.length_set, EE.down]) rfl ?_
        simp only [VW.down, Nat.reduceEqDiff, reduceCtorEq, Nat.reduceAdd, Nat.reduceLeDiff, Nat.reduceLT, EE.down]
        obtain rfl := Option.some.inj h
        exact eM [] rfl
    · rintro _ rfl
      clear ho
      simp only [VW.down, Nat.reduceEqDiff, reduceCtorEq, Nat.reduceAdd, Nat.reduceLeDiff, Nat.reduceLT, EE.down]
      refine condB (fun c10 => ?_) (fun c10 => ?_)
      · have h := (if_pos c10).symm.trans h
        simp only [VW.down, Nat.reduceEqDiff, reduceCtorEq, Nat.reduceAdd, Nat.reduceLeDiff, Nat.reduceLT, EE.down]
        obtain rfl := Option.some.inj h
        exact eF []
      · have h := (if_neg c10).symm.trans h
        simp only [VW.down, Nat.reduceEqDiff, reduceCtorEq, Nat.reduceAdd, Nat.reduceLeDiff, Nat.reduceLT, EE.down]
        obtain ⟨o11, ho, h⟩ := Option.bind_eq_some_iff.1 h
        refine cutS (fun s => s = ⟨[(8, .one (.c (.d (.v (.bool o11)))))], []⟩) ?_ ?_
        · have h := ho
          clear ho
          simp only [VW.down, Nat.reduceEqDiff, reduceCtorEq, Nat.reduceAdd, Nat.reduceLeDiff, Nat.reduceLT, EE.down]
          obtain ⟨t12, ht12, h⟩ := Option.bind_eq_some_iff.1 h
          refine callX_n [] (F9_ok ht12) ?_ ?_ ?_ ?_ ?_ ?_
          · first | rfl | simp [nrmA, nrmC, nrm, A1.ren, C.ren, rn, List.length_set]
          · simp [liveAll, A1.live, C.live]
          · rfl
          · decide
          · exact trivial
          simp only [VW.down, Nat.reduceEqDiff, reduceCtorEq, Nat.reduceAdd, Nat.reduceLeDiff, Nat.reduceLT, EE.down]
          obtain ⟨t13, ht13, h⟩ := Option.bind_eq_some_iff.1 h
          refine callX_bor (F10_ok ht13) (by simp only [borAs, bors, hp, List.getElem?_cons_zero, List.getElem?_cons_succ, Option.join_some, List.drop_zero, bor_full', true_and, Nat.zero_add, List.length_map, Nat.le_refl, nrm, List.length_cons, List.length_nil, Nat.reduceAdd, Nat.reduceLeDiff, List.take_succ_cons, List.take_zero, List.take_nil, List.map_cons, List.map_nil, List.length_set, EE.down]) rfl ?_
          simp only [VW.down, Nat.reduceEqDiff, reduceCtorEq, Nat.reduceAdd, Nat.reduceLeDiff, Nat.reduceLT, EE.down]
          refine guardSB (fun g14 => ?_) (fun g14 => ?_)
          · have h := (if_pos g14).symm.trans h
            simp only [VW.down, Nat.reduceEqDiff, reduceCtorEq, Nat.reduceAdd, Nat.reduceLeDiff, Nat.reduceLT, EE.down]
            obtain ⟨t15, ht15, h⟩ := Option.bind_eq_some_iff.1 h
            refine callX_n [] (F8_ok ht15) ?_ ?_ ?_ ?_ ?_ ?_
            · first | rfl | simp [nrmA, nrmC, nrm, A1.ren, C.ren, rn, List.length_set]
            · simp [liveAll, A1.live, C.live]
            · rfl
            · decide
            · exact trivial
            simp only [VW.down, Nat.reduceEqDiff, reduceCtorEq, Nat.reduceAdd, Nat.reduceLeDiff, Nat.reduceLT, EE.down]
            obtain rfl := Option.some.inj h
            exact eM [] rfl
          · have h := (if_neg g14).symm.trans h
            simp only [VW.down, Nat.reduceEqDiff, reduceCtorEq, Nat.reduceAdd, Nat.reduceLeDiff, Nat.reduceLT, EE.down]
            obtain rfl := Option.some.inj h
            exact eM [] rfl
        · rintro _ rfl
          clear ho
          simp only [VW.down, Nat.reduceEqDiff, reduceCtorEq, Nat.reduceAdd, Nat.reduceLeDiff, Nat.reduceLT, EE.down]
          obtain rfl := Option.some.inj h
          exact eF []

/- orchestrator/orchestratorref52.Total -/
def F16_l1  : List Image → Nat → Int → Option (Int)
  | [], o1_1, o1_0 => some o1_0
  | xo1 :: xs, o1_1, o1_0 => F16_l1  xs (o1_1 + 1) ((IntKind.i64.wrap (o1_0 + xo1.Size)))
def F16 (x0 : (List Image)) : Option (Int) := (((ck (0 ≤ x0.length ∧ x0.length ≤ 4294967290)).bind fun u3 => F16_l1 x0 0 0).bind fun o1 => some o1)
def a16 : AFn := ⟨19, [(.tmp 2)],
 (.seq (.reg [⟨(some 2), none, .mv (kI 0), [], true⟩])
 (.seq (.reg [⟨(some 3), none, .mv (kI 0), [], true⟩])
 (.seq (.seq (.reg [⟨(some 4), none, .mv (kI 0), [], true⟩])
 (.sem (.block 0 (.loop (.seq (.seq (.reg [⟨(some 5), none, .mv (.t 4), [], false⟩,
   ⟨(some 6), none, .mv (.t 0), [], false⟩,
   ⟨(some 7), none, .len (.t 6), [], false⟩,
   ⟨(some 8), none, .bin .lss (.t 5) (.t 7), [], false⟩])
 (.cond (.t 8)
 .skip
 (.exit 0)))
 (.seq (.block 1 (.reg [⟨(some 11), none, .mv (.t 3), [], false⟩,
   ⟨(some 12), none, .mv (.t 0), [], false⟩,
   ⟨(some 13), none, .mv (.t 4), [], false⟩,
   ⟨(some 14), none, .indexA 3 (.t 12) (.t 13), [], false⟩,
   ⟨(some 15), none, .fieldA 1 (.t 14), [], false⟩,
   ⟨(some 16), none, .load none (.t 15), [], false⟩,
   ⟨(some 17), none, .bin .add (.t 11) (.t 16), [], false⟩,
   ⟨(some 3), none, .mv (.t 17), [], false⟩]))
 (.reg [⟨(some 9), none, .mv (.t 4), [], false⟩,
   ⟨(some 10), none, .bin .add (.t 9) (kI 1), [], false⟩,
   ⟨(some 4), none, .mv (.t 10), [], false⟩])))))))
 (.seq (.reg [⟨(some 18), none, .mv (.t 3), [], false⟩,
   ⟨(some 2), none, .mv (.t 18), [], false⟩])
 .ret))))⟩
theorem a16_ok : afn Try.prog 16 = some a16.er := by kernel_rfl
theorem F16_ok {x0 : (List Image)} {r : Int} (h : F16 x0 = some r) : CallD Try.prog 16 [.c (.d (.sl (x0.map eImage)))] [] (tupV [.c (.d (.v (.int .i64 r)))]) [] := by
  refine callS a16_ok (by simp [a16]) ?_
  rw [F16] at h
  simp only [a16, VW.down, Nat.reduceEqDiff, reduceCtorEq, Nat.reduceAdd, Nat.reduceLeDiff, Nat.reduceLT, EE.down]
  obtain ⟨o1, ho, h⟩ := Option.bind_eq_some_iff.1 h
  refine cutS (fun s => s = ⟨[(3, .one (.c (.d (.v (.int .i64 o1)))))], []⟩) ?_ ?_
  · have h := ho
    clear ho
    obtain ⟨_, hk, h⟩ := Option.bind_eq_some_iff.1 h
    have hk := ck_some hk
    simp only [VW.down, Nat.reduceEqDiff, reduceCtorEq, Nat.reduceAdd, Nat.reduceLeDiff, Nat.reduceLT, EE.down]
    refine bL (fun j s => ∃ (o1_1 : Nat) (o1_0 : Int), (o1_1 ≤ x0.length ∧ j = x0.length - o1_1) ∧ s = ⟨[(0, .one (.c (.d (.sl (x0.map eImage))))), (3, .one (.c (.d (.v (.int .i64 o1_0))))), (4, .one (.c (.d (.v (.int .i64 ((o1_1 : Int)))))))], []⟩ ∧ F16_l1 (x0.drop o1_1) o1_1 o1_0 = some o1) (x0.length - 0) [] ⟨0, 0, ⟨hk.1, rfl⟩, rfl, h⟩ ?_
    rintro _ _ ⟨o1_1, o1_0, ⟨hi, rfl⟩, rfl, h⟩
    simp only [VW.down, Nat.reduceEqDiff, reduceCtorEq, Nat.reduceAdd, Nat.reduceLeDiff, Nat.reduceLT, EE.down]
    refine condS (fun c2 => ?_) (fun c2 => ?_)
    · obtain ⟨xo1, hxo1, hd⟩ := countY c2
      rw [hd, F16_l1] at h
      simp only [VW.down, Nat.reduceEqDiff, reduceCtorEq, Nat.reduceAdd, Nat.reduceLeDiff, Nat.reduceLT, EE.down]
      refine t_idxF (enc := eImage) (xs := x0) rfl rfl hxo1 rfl ?_
      simp only [VW.down, Nat.reduceEqDiff, reduceCtorEq, Nat.reduceAdd, Nat.reduceLeDiff, Nat.reduceLT, EE.down]
      rw [wrapN (by omega)]
      exact eL' (x0.length - (o1_1 + 1)) [] ⟨o1_1 + 1, (IntKind.i64.wrap (o1_0 + xo1.Size)), ⟨by omega, rfl⟩, rfl, h⟩ (by omega)
    · rw [countN c2, F16_l1] at h
      simp only [VW.down, Nat.reduceEqDiff, reduceCtorEq, Nat.reduceAdd, Nat.reduceLeDiff, Nat.reduceLT, EE.down]
      obtain rfl := Option.some.inj h
      exact eM [] rfl
  · rintro _ rfl
    clear ho
    simp only [VW.down, Nat.reduceEqDiff, reduceCtorEq, Nat.reduceAdd, Nat.reduceLeDiff, Nat.reduceLT, EE.down]
    obtain rfl := Option.some.inj h
    exact eF []

/- orchestrator/orchestratorref52.among -/
def F29_l1 (x1 : ByteArray) : List ByteArray → Nat → Option ((Bool) ⊕ (Unit))
  | [], o1_0 => some (Sum.inr (()))
  | xo1 :: xs, o1_0 => (if xo1 = x1 then (some true).map Sum.inl else F29_l1 x1 xs (o1_0 + 1))
def F29 (x0 : (List ByteArray)) (x1 : ByteArray) : Option (Bool) := (((ck (0 ≤ x0.length ∧ x0.length ≤ 4294967290)).bind fun u4 => F29_l1 x1 x0 0).bind fun o1 => match o1 with | Sum.inl f => some f | Sum.inr po1 => some false)
def a29 : AFn := ⟨18, [(.tmp 4)],
 (.seq (.reg [⟨(some 4), none, .mv (kB false), [], true⟩])
 (.seq (.seq (.reg [⟨(some 5), none, .mv (kI 0), [], true⟩])
 (.sem (.block 0 (.loop (.seq (.seq (.reg [⟨(some 6), none, .mv (.t 5), [], false⟩,
   ⟨(some 7), none, .mv (.t 0), [], false⟩,
   ⟨(some 8), none, .len (.t 7), [], false⟩,
   ⟨(some 9), none, .bin .lss (.t 6) (.t 8), [], false⟩])
 (.cond (.t 9)
 .skip
 (.exit 0)))
 (.seq (.block 1 (.seq (.reg [⟨(some 12), none, .mv (.t 0), [], false⟩,
   ⟨(some 13), none, .mv (.t 5), [], false⟩,
   ⟨(some 14), none, .indexA 1 (.t 12) (.t 13), [], false⟩,
   ⟨(some 15), none, .load none (.t 14), [], false⟩,
   ⟨(some 16), none, .mv (.t 1), [], false⟩,
   ⟨(some 17), none, .bin .eql (.t 15) (.t 16), [], false⟩])
 (.cond (.t 17)
 (.seq (.reg [⟨(some 4), none, .mv (kB true), [], true⟩])
 .ret)
 .skip)))
 (.reg [⟨(some 10), none, .mv (.t 5), [], false⟩,
   ⟨(some 11), none, .bin .add (.t 10) (kI 1), [], false⟩,
   ⟨(some 5), none, .mv (.t 11), [], false⟩])))))))
 (.seq (.reg [⟨(some 4), none, .mv (kB false), [], true⟩])
 .ret)))⟩
theorem a29_ok : afn Try.prog 29 = some a29.er := by kernel_rfl
theorem F29_ok {x0 : (List ByteArray)} {x1 : ByteArray} {r : Bool} (h : F29 x0 x1 = some r) : CallD Try.prog 29 [.c (.d (.sl (x0.map eS))), .c (.d (.v (.string x1)))] [] (tupV [.c (.d (.v (.bool r)))]) [] := by
  refine callS a29_ok (by simp [a29]) ?_
  rw [F29] at h
  simp only [a29, VW.down, Nat.reduceEqDiff, reduceCtorEq, Nat.reduceAdd, Nat.reduceLeDiff, Nat.reduceLT, EE.down]
  obtain ⟨o1, ho, h⟩ := Option.bind_eq_some_iff.1 h
  refine cutS (fun s => ∃ po1, o1 = Sum.inr po1 ∧ s = ⟨[], []⟩) ?_ ?_
  · have h0o1 := h
    have h := ho
    clear ho
    obtain ⟨_, hk, h⟩ := Option.bind_eq_some_iff.1 h
    have hk := ck_some hk
    simp only [VW.down, Nat.reduceEqDiff, reduceCtorEq, Nat.reduceAdd, Nat.reduceLeDiff, Nat.reduceLT, EE.down]
    refine bL (fun j s => ∃ (o1_0 : Nat), (o1_0 ≤ x0.length ∧ j = x0.length - o1_0) ∧ s = ⟨[(0, .one (.c (.d (.sl (x0.map eS))))), (1, .one (.c (.d (.v (.string x1))))), (5, .one (.c (.d (.v (.int .i64 ((o1_0 : Int)))))))], []⟩ ∧ F29_l1 x1 (x0.drop o1_0) o1_0 = some o1) (x0.length - 0) [] ⟨0, ⟨hk.1, rfl⟩, rfl, h⟩ ?_
    rintro _ _ ⟨o1_0, ⟨hi, rfl⟩, rfl, h⟩
    simp only [VW.down, Nat.reduceEqDiff, reduceCtorEq, Nat.reduceAdd, Nat.reduceLeDiff, Nat.reduceLT, EE.down]
    refine condS (fun c2 => ?_) (fun c2 => ?_)
    · obtain ⟨xo1, hxo1, hd⟩ := countY c2
      rw [hd, F29_l1] at h
      simp only [VW.down, Nat.reduceEqDiff, reduceCtorEq, Nat.reduceAdd, Nat.reduceLeDiff, Nat.reduceLT, EE.down]
      refine t_idxF (enc := eS) (xs := x0) rfl rfl hxo1 rfl ?_
      simp only [VW.down, Nat.reduceEqDiff, reduceCtorEq, Nat.reduceAdd, Nat.reduceLeDiff, Nat.reduceLT, EE.down]
      refine condS (fun c3 => ?_) (fun c3 => ?_)
      · have h := (if_pos c3).symm.trans h
        simp only [VW.down, Nat.reduceEqDiff, reduceCtorEq, Nat.reduceAdd, Nat.reduceLeDiff, Nat.reduceLT, EE.down]
        obtain ⟨fh0o1, hfh0o1, rfl⟩ := Option.map_eq_some_iff.1 h
        have h := hfh0o1.trans h0o1
        obtain rfl := Option.some.inj h
        exact eF []
      · have h := (if_neg c3).symm.trans h
        simp only [VW.down, Nat.reduceEqDiff, reduceCtorEq, Nat.reduceAdd, Nat.reduceLeDiff, Nat.reduceLT, EE.down]
        rw [wrapN (by omega)]
        exact eL' (x0.length - (o1_0 + 1)) [] ⟨o1_0 + 1, ⟨by omega, rfl⟩, rfl, h⟩ (by omega)
    · rw [countN c2, F29_l1] at h
      simp only [VW.down, Nat.reduceEqDiff, reduceCtorEq, Nat.reduceAdd, Nat.reduceLeDiff, Nat.reduceLT, EE.down]
      obtain rfl := Option.some.inj h
      exact eM [] ⟨_, rfl, rfl⟩
  · rintro _ ⟨po1, rfl, rfl⟩
    clear ho
    dsimp only at h
    simp only [VW.down, Nat.reduceEqDiff, reduceCtorEq, Nat.reduceAdd, Nat.reduceLeDiff, Nat.reduceLT, EE.down]
    obtain rfl := Option.some.inj h
    exact eF []

/- orchestrator/orchestratorref52.next -/
def F25_l1 (x0 : (List Image)) (x1 : (List ByteArray)) : List Image → Nat → Int → Option (Int)
  | [], o1_1, o1_0 => some o1_0
  | xo1 :: xs, o1_1, o1_0 => (((((F29 x1 xo1.Name).bind fun t5 => (if (nb t5) = true then (if o1_0 < 0 then some true else (rdI x0 o1_0).bind fun y8 => some (decide (xo1.Used < y8.Used))) else some false)).bind fun o4 => (if o4 = true then some ((o1_1 : Int)) else some o1_0))).bind fun o3 => F25_l1 x0 x1 xs (o1_1 + 1) o3)
def F25 (x0 : (List Image)) (x1 : (List ByteArray)) : Option (Int) := (((ck (0 ≤ x0.length ∧ x0.length ≤ 4294967290)).bind fun u10 => F25_l1 x0 x1 x0 0 ((-1))).bind fun o1 => some o1)
def a25 : AFn := ⟨40, [(.tmp 4)],
 (.seq (.reg [⟨(some 4), none, .mv (kI 0), [], true⟩])
 (.seq (.reg [⟨(some 5), none, .mv (kI (-1)), [], true⟩])
 (.seq (.seq (.reg [⟨(some 6), none, .mv (kI 0), [], true⟩])
 (.sem (.block 0 (.loop (.seq (.seq (.reg [⟨(some 7), none, .mv (.t 6), [], false⟩,
   ⟨(some 8), none, .mv (.t 0), [], false⟩,
   ⟨(some 9), none, .len (.t 8), [], false⟩,
   ⟨(some 10), none, .bin .lss (.t 7) (.t 9), [], false⟩])
 (.cond (.t 10)
 .skip
 (.exit 0)))
 (.seq (.sem (.block 1 (.seq (.sem (.regd [⟨(some 13), none, .mv (.t 1), [], false⟩,
   ⟨(some 14), none, .mv (.t 0), [], false⟩,
   ⟨(some 15), none, .mv (.t 6), [], false⟩,
   ⟨(some 16), none, .indexA 3 (.t 14) (.t 15), [1, 2], false⟩,
   ⟨(some 17), none, .fieldA 0 (.t 16), [1, 2, 3], false⟩,
   ⟨(some 18), none, .load none (.t 17), [1, 2, 3, 4], false⟩,
   ⟨(some 19), none, .call 29 [(.t 13), (.t 18)], [0, 1, 2, 3, 4, 5], true⟩,
   ⟨(some 20), none, .not (.t 19), [0, 1, 2, 3, 4, 5, 6], true⟩,
   ⟨(some 21), none, .mv (.t 20), [0, 1, 2, 3, 4, 5, 6, 7], true⟩,
   ⟨(some 22), (some (21, true)), .mv (.t 5), [0, 1, 2, 3, 4, 5, 6, 7, 8], true⟩,
   ⟨(some 23), (some (21, true)), .bin .lss (.t 22) (kI 0), [0, 1, 2, 3, 4, 5, 6, 7, 8, 9], true⟩,
   ⟨(some 24), (some (21, true)), .mv (.t 23), [0, 1, 2, 3, 4, 5, 6, 7, 8, 9, 10], true⟩,
   ⟨(some 25), (some (24, false)), .mv (.t 0), [0, 1, 2, 3, 4, 5, 6, 7, 8, 9, 10, 11], false⟩,
   ⟨(some 26), (some (24, false)), .mv (.t 6), [0, 1, 2, 3, 4, 5, 6, 7, 8, 9, 10, 11], false⟩,
   ⟨(some 27), (some (24, false)), .indexA 3 (.t 25) (.t 26), [0, 1, 2, 3, 4, 5, 6, 7, 8, 9, 10, 11, 12, 13], false⟩,
   ⟨(some 28), (some (24, false)), .fieldA 2 (.t 27), [0, 1, 2, 3, 4, 5, 6, 7, 8, 9, 10, 11, 12, 13, 14], false⟩,
   ⟨(some 29), (some (24, false)), .load none (.t 28), [0, 1, 2, 3, 4, 5, 6, 7, 8, 9, 10, 11, 12, 13, 14, 15], false⟩,
   ⟨(some 30), (some (24, false)), .mv (.t 0), [0, 1, 2, 3, 4, 5, 6, 7, 8, 9, 10, 11], false⟩,
   ⟨(some 31), (some (24, false)), .mv (.t 5), [0, 1, 2, 3, 4, 5, 6, 7, 8, 9, 10, 11], false⟩,
   ⟨(some 32), (some (24, false)), .indexA 3 (.t 30) (.t 31), [0, 1, 2, 3, 4, 5, 6, 7, 8, 9, 10, 11, 17, 18], false⟩,
   ⟨(some 33), (some (24, false)), .fieldA 2 (.t 32), [0, 1, 2, 3, 4, 5, 6, 7, 8, 9, 10, 11, 17, 18, 19], false⟩,
   ⟨(some 34), (some (24, false)), .load none (.t 33), [0, 1, 2, 3, 4, 5, 6, 7, 8, 9, 10, 11, 17, 18, 19, 20], false⟩,
   ⟨(some 35), (some (24, false)), .bin .lss (.t 29) (.t 34), [0, 1, 2, 3, 4, 5, 6, 7, 8, 9, 10, 11, 12, 13, 14, 15, 16, 17, 18, 19, 20, 21], true⟩,
   ⟨(some 36), (some (21, true)), .pick (.t 24) (kB true) (.t 35), [0, 1, 2, 3, 4, 5, 6, 7, 8, 9, 10, 11, 12, 13, 14, 15, 16, 17, 18, 19, 20, 21, 22], true⟩,
   ⟨(some 37), none, .pick (.t 21) (.t 36) (kB false), [0, 1, 2, 3, 4, 5, 6, 7, 8, 9, 10, 11, 12, 13, 14, 15, 16, 17, 18, 19, 20, 21, 22, 23], true⟩]))
 (.cond (.t 37)
 (.reg [⟨(some 38), none, .mv (.t 6), [], false⟩,
   ⟨(some 5), none, .mv (.t 38), [], false⟩])
 .skip))))
 (.reg [⟨(some 11), none, .mv (.t 6), [], false⟩,
   ⟨(some 12), none, .bin .add (.t 11) (kI 1), [], false⟩,
   ⟨(some 6), none, .mv (.t 12), [], false⟩])))))))
 (.seq (.reg [⟨(some 39), none, .mv (.t 5), [], false⟩,
   ⟨(some 4), none, .mv (.t 39), [], false⟩])
 .ret))))⟩
theorem a25_ok : afn Try.prog 25 = some a25.er := by kernel_rfl
theorem F25_ok {x0 : (List Image)} {x1 : (List ByteArray)} {r : Int} (h : F25 x0 x1 = some r) : CallD Try.prog 25 [.c (.d (.sl (x0.map eImage))), .c (.d (.sl (x1.map eS)))] [] (tupV [.c (.d (.v (.int .i64 r)))]) [] := by
  refine callS a25_ok (by simp [a25]) ?_
  rw [F25] at h
  simp only [a25, VW.down, Nat.reduceEqDiff, reduceCtorEq, Nat.reduceAdd, Nat.reduceLeDiff, Nat.reduceLT, EE.down]
  obtain ⟨o1, ho, h⟩ := Option.bind_eq_some_iff.1 h
  refine cutS (fun s => s = ⟨[(5, .one (.c (.d (.v (.int .i64 o1)))))], []⟩) ?_ ?_
  · have h := ho
    clear ho
    obtain ⟨_, hk, h⟩ := Option.bind_eq_some_iff.1 h
    have hk := ck_some hk
    simp only [VW.down, Nat.reduceEqDiff, reduceCtorEq, Nat.reduceAdd, Nat.reduceLeDiff, Nat.reduceLT, EE.down]
    refine bL (fun j s => ∃ (o1_1 : Nat) (o1_0 : Int), (o1_1 ≤ x0.length ∧ j = x0.length - o1_1) ∧ s = ⟨[(0, .one (.c (.d (.sl (x0.map eImage))))), (1, .one (.c (.d (.sl (x1.map eS))))), (5, .one (.c (.d (.v (.int .i64 o1_0))))), (6, .one (.c (.d (.v (.int .i64 ((o1_1 : Int)))))))], []⟩ ∧ F25_l1 x0 x1 (x0.drop o1_1) o1_1 o1_0 = some o1) (x0.length - 0) [] ⟨0, (-1), ⟨hk.1, rfl⟩, rfl, h⟩ ?_
    rintro _ _ ⟨o1_1, o1_0, ⟨hi, rfl⟩, rfl, h⟩
    simp only [VW.down, Nat.reduceEqDiff, reduceCtorEq, Nat.reduceAdd, Nat.reduceLeDiff, Nat.reduceLT, EE.down]
    refine condS (fun c2 => ?_) (fun c2 => ?_)
    · obtain ⟨xo1, hxo1, hd⟩ := countY c2
      rw [hd, F25_l1] at h
      simp only [VW.down, Nat.reduceEqDiff, reduceCtorEq, Nat.reduceAdd, Nat.reduceLeDiff, Nat.reduceLT, EE.down]
      obtain ⟨o3, ho, h⟩ := Option.bind_eq_some_iff.1 h
      refine cutS (fun s => s = ⟨[(0, .one (.c (.d (.sl (x0.map eImage))))), (1, .one (.c (.d (.sl (x1.map eS))))), (5, .one (.c (.d (.v (.int .i64 o3))))), (6, .one (.c (.d (.v (.int .i64 ((o1_1 : Int)))))))], []⟩) ?_ ?_
      · have h := ho
        clear ho
        simp only [VW.down, Nat.reduceEqDiff, reduceCtorEq, Nat.reduceAdd, Nat.reduceLeDiff, Nat.reduceLT, EE.down]
        obtain ⟨o4, ho, h⟩ := Option.bind_eq_some_iff.1 h
        refine cutS (fun s => s = ⟨[(0, .one (.c (.d (.sl (x0.map eImage))))), (1, .one (.c (.d (.sl (x1.map eS))))), (5, .one (.c (.d (.v (.int .i64 o1_0))))), (6, .one (.c (.d (.v (.int .i64 ((o1_1 : Int))))))), (37, .one (.c (.d (.v (.bool o4)))))], []⟩) ?_ ?_
        · have h := ho
          clear ho
          simp only [VW.down, Nat.reduceEqDiff, reduceCtorEq, Nat.reduceAdd, Nat.reduceLeDiff, Nat.reduceLT, EE.down]
          refine t_idxF (enc := eImage) (xs := x0) rfl rfl hxo1 rfl ?_
          simp only [VW.down, Nat.reduceEqDiff, reduceCtorEq, Nat.reduceAdd, Nat.reduceLeDiff, Nat.reduceLT, EE.down]
          obtain ⟨t5, ht5, h⟩ := Option.bind_eq_some_iff.1 h
          refine callX_n [] (F29_ok ht5) ?_ ?_ ?_ ?_ ?_ ?_
          · first | rfl | simp [nrmA, nrmC, nrm, A1.ren, C.ren, rn, List.length_set]
          · simp [liveAll, A1.live, C.live]
          · rfl
          · decide
          · exact trivial
          simp only [VW.down, Nat.reduceEqDiff, reduceCtorEq, Nat.reduceAdd, Nat.reduceLeDiff, Nat.reduceLT, EE.down]
          refine guardDB (fun g6 => ?_) (fun g6 => ?_)
          · have h := (if_pos g6).symm.trans h
            simp only [VW.down, Nat.reduceEqDiff, reduceCtorEq, Nat.reduceAdd, Nat.reduceLeDiff, Nat.reduceLT, EE.down]
            refine guardD (fun g7 => ?_) (fun g7 => ?_)
            · have h := (if_pos g7).symm.trans h
              simp only [VW.down, Nat.reduceEqDiff, reduceCtorEq, Nat.reduceAdd, Nat.reduceLeDiff, Nat.reduceLT, EE.down]
              obtain rfl := Option.some.inj h
              exact eM [] rfl
            · have h := (if_neg g7).symm.trans h
              simp only [VW.down, Nat.reduceEqDiff, reduceCtorEq, Nat.reduceAdd, Nat.reduceLeDiff, Nat.reduceLT, EE.down]
              refine t_idxF (enc := eImage) (xs := x0) rfl rfl hxo1 rfl ?_
              simp only [VW.down, Nat.reduceEqDiff, reduceCtorEq, Nat.reduceAdd, Nat.reduceLeDiff, Nat.reduceLT, EE.down]
              obtain ⟨y8, hy8, h⟩ := Option.bind_eq_some_iff.1 h
              refine t_idxF (enc := eImage) (xs := x0) rfl rfl hy8 rfl ?_
              simp only [VW.down, Nat.reduceEqDiff, reduceCtorEq, Nat.reduceAdd, Nat.reduceLeDiff, Nat.reduceLT, EE.down]
              obtain rfl := Option.some.inj h
              exact eM [] rfl
          · have h := (if_neg g6).symm.trans h
            simp only [VW.down, Nat.reduceEqDiff, reduceCtorEq, Nat.reduceAdd, Nat.reduceLeDiff, Nat.reduceLT, EE.down]
            obtain rfl := Option.some.inj h
            exact eM [] rfl
        · rintro _ rfl
          clear ho
          simp only [VW.down, Nat.reduceEqDiff, reduceCtorEq, Nat.reduceAdd, Nat.reduceLeDiff, Nat.reduceLT, EE.down]
          refine condB (fun c9 => ?_) (fun c9 => ?_)
          · have h := (if_pos c9).symm.trans h
            simp only [VW.down, Nat.reduceEqDiff, reduceCtorEq, Nat.reduceAdd, Nat.reduceLeDiff, Nat.reduceLT, EE.down]
            obtain rfl := Option.some.inj h
            exact eM [] rfl
          · have h := (if_neg c9).symm.trans h
            simp only [VW.down, Nat.reduceEqDiff, reduceCtorEq, Nat.reduceAdd, Nat.reduceLeDiff, Nat.reduceLT, EE.down]
            obtain rfl := Option.some.inj h
            exact eM [] rfl
      · rintro _ rfl
        clear ho
        simp only [VW.down, Nat.reduceEqDiff, reduceCtorEq, Nat.reduceAdd, Nat.reduceLeDiff, Nat.reduceLT, EE.down]
        rw [wrapN (by omega)]
        exact eL' (x0.length - (o1_1 + 1)) [] ⟨o1_1 + 1, o3, ⟨by omega, rfl⟩, rfl, h⟩ (by omega)
    · rw [countN c2, F25_l1] at h
      simp only [VW.down, Nat.reduceEqDiff, reduceCtorEq, Nat.reduceAdd, Nat.reduceLeDiff, Nat.reduceLT, EE.down]
      obtain rfl := Option.some.inj h
      exact eM [] rfl
  · rintro _ rfl
    clear ho
    simp only [VW.down, Nat.reduceEqDiff, reduceCtorEq, Nat.reduceAdd, Nat.reduceLeDiff, Nat.reduceLT, EE.down]
    obtain rfl := Option.some.inj h
    exact eF []

/- orchestrator/orchestratorref52.Collect -/
def F13_l6 (t1 : Int) (t3 : Int) (x1 : (List ByteArray)) : Nat → (List Image) → (List ByteArray) → Option ((((List Image)) × (List ByteArray)) ⊕ (((List Image)) × (List ByteArray)))
  | 0, _, _ => none
  | k + 1, o6_0, o6_1 => (F16 o6_0).bind fun t7 => (if (IntKind.i64.wrap (t3 * t1)) < (IntKind.i64.wrap (100 * t7)) then (F25 o6_0 x1).bind fun t9 => (if t9 < 0 then (some ((o6_0, o6_1))).map Sum.inl else (rdI o6_0 t9).bind fun y11 => (apI o6_1 ([y11.Name])).bind fun a12 => (slI o6_0 0 t9).bind fun s13 => (apI ([] : List Image) s13).bind fun a14 => (slI o6_0 ((IntKind.i64.wrap (t9 + 1))) ((o6_0.length : Int))).bind fun s15 => (apI a14 s15).bind fun a16 => F13_l6 t1 t3 x1 k a16 a12) else some (Sum.inr ((o6_0, o6_1))))
def F13 (x0 : (List Image)) (x1 : (List ByteArray)) (x2 : Int) (x3 : Int) (x4 : Int) : Option (((List Image)) × (List ByteArray)) := (F21 x2 0 1000000000000000).bind fun t1 => (F21 x3 0 100).bind fun t2 => (F21 x4 0 t2).bind fun t3 => (F16 x0).bind fun t4 => (if (IntKind.i64.wrap (100 * t4)) ≤ (IntKind.i64.wrap (t2 * t1)) then some ((x0, [])) else ((F13_l6 t1 t3 x1 1099511627776 x0 ([])).bind fun o6 => match o6 with | Sum.inl f => some f | Sum.inr po6 => some ((po6.1, po6.2))))
def a13 : AFn := ⟨66, [(.tmp 10), (.tmp 11)],
 (.seq (.reg [⟨(some 10), none, .mv kN, [], false⟩,
   ⟨(some 11), none, .mv kN, [], false⟩])
 (.seq (.reg [⟨(some 15), none, .mv (.t 2), [], false⟩,
   ⟨(some 16), none, .call 21 [(.t 15), (kI 0), (kI 1000000000000000)], [], false⟩,
   ⟨(some 2), none, .mv (.t 16), [], false⟩])
 (.seq (.reg [⟨(some 17), none, .mv (.t 3), [], false⟩,
   ⟨(some 18), none, .call 21 [(.t 17), (kI 0), (kI 100)], [], false⟩,
   ⟨(some 3), none, .mv (.t 18), [], false⟩])
 (.seq (.reg [⟨(some 19), none, .mv (.t 4), [], false⟩,
   ⟨(some 20), none, .mv (.t 3), [], false⟩,
   ⟨(some 21), none, .call 21 [(.t 19), (kI 0), (.t 20)], [], false⟩,
   ⟨(some 4), none, .mv (.t 21), [], false⟩])
 (.seq (.seq (.reg [⟨(some 22), none, .mv (.t 0), [], false⟩,
   ⟨(some 23), none, .call 16 [(.t 22)], [], false⟩,
   ⟨(some 24), none, .bin .mul (kI 100) (.t 23), [], false⟩,
   ⟨(some 25), none, .mv (.t 3), [], false⟩,
   ⟨(some 26), none, .mv (.t 2), [], false⟩,
   ⟨(some 27), none, .bin .mul (.t 25) (.t 26), [], false⟩,
   ⟨(some 28), none, .bin .leq (.t 24) (.t 27), [], false⟩])
 (.cond (.t 28)
 (.seq (.reg [⟨(some 29), none, .mv (.t 0), [], false⟩,
   ⟨(some 10), none, .mv (.t 29), [], false⟩,
   ⟨(some 11), none, .mv kN, [], false⟩])
 .ret)
 .skip))
 (.seq (.reg [⟨(some 12), none, .mv kN, [], true⟩])
 (.seq (.sem (.block 0 (.loop (.seq (.seq (.reg [⟨(some 30), none, .mv (.t 0), [], false⟩,
   ⟨(some 31), none, .call 16 [(.t 30)], [], false⟩,
   ⟨(some 32), none, .bin .mul (kI 100) (.t 31), [], false⟩,
   ⟨(some 33), none, .mv (.t 4), [], false⟩,
   ⟨(some 34), none, .mv (.t 2), [], false⟩,
   ⟨(some 35), none, .bin .mul (.t 33) (.t 34), [], false⟩,
   ⟨(some 36), none, .bin .gtr (.t 32) (.t 35), [], false⟩])
 (.cond (.t 36)
 .skip
 (.exit 0)))
 (.block 1 (.seq (.reg [⟨(some 37), none, .mv (.t 0), [], false⟩,
   ⟨(some 38), none, .mv (.t 1), [], false⟩,
   ⟨(some 39), none, .call 25 [(.t 37), (.t 38)], [], false⟩,
   ⟨(some 13), none, .mv (.t 39), [], false⟩])
 (.seq (.seq (.reg [⟨(some 40), none, .mv (.t 13), [], false⟩,
   ⟨(some 41), none, .bin .lss (.t 40) (kI 0), [], false⟩])
 (.cond (.t 41)
 (.seq (.reg [⟨(some 42), none, .mv (.t 0), [], false⟩,
   ⟨(some 43), none, .mv (.t 12), [], false⟩,
   ⟨(some 10), none, .mv (.t 42), [], false⟩,
   ⟨(some 11), none, .mv (.t 43), [], false⟩])
 .ret)
 .skip))
 (.seq (.reg [⟨(some 44), none, .mv (.t 12), [], false⟩,
   ⟨(some 45), none, .mv (.t 0), [], false⟩,
   ⟨(some 46), none, .mv (.t 13), [], false⟩,
   ⟨(some 47), none, .indexA 3 (.t 45) (.t 46), [], false⟩,
   ⟨(some 48), none, .fieldA 0 (.t 47), [], false⟩,
   ⟨(some 49), none, .load none (.t 48), [], false⟩,
   ⟨(some 50), none, .bslice 1 [(.t 49)], [], false⟩,
   ⟨(some 51), none, .app 1 16 (.t 44) (.t 50), [], false⟩,
   ⟨(some 12), none, .mv (.t 51), [], false⟩])
 (.seq (.reg [⟨(some 52), none, .bslice 3 [], [], false⟩,
   ⟨(some 53), none, .mv (.t 0), [], false⟩,
   ⟨(some 54), none, .mv (.t 13), [], false⟩,
   ⟨(some 55), none, .slice 3 (.t 53) none (some (.t 54)) none, [], false⟩,
   ⟨(some 56), none, .app 3 32 (.t 52) (.t 55), [], false⟩,
   ⟨(some 14), none, .mv (.t 56), [], false⟩])
 (.seq (.reg [⟨(some 57), none, .mv (.t 14), [], false⟩,
   ⟨(some 58), none, .mv (.t 0), [], false⟩,
   ⟨(some 59), none, .mv (.t 13), [], false⟩,
   ⟨(some 60), none, .bin .add (.t 59) (kI 1), [], false⟩,
   ⟨(some 61), none, .slice 3 (.t 58) (some (.t 60)) none none, [], false⟩,
   ⟨(some 62), none, .app 3 32 (.t 57) (.t 61), [], false⟩,
   ⟨(some 14), none, .mv (.t 62), [], false⟩])
 (.reg [⟨(some 63), none, .mv (.t 14), [], false⟩,
   ⟨(some 0), none, .mv (.t 63), [], false⟩])))))))))))
 (.seq (.reg [⟨(some 64), none, .mv (.t 0), [], false⟩,
   ⟨(some 65), none, .mv (.t 12), [], false⟩,
   ⟨(some 10), none, .mv (.t 64), [], false⟩,
   ⟨(some 11), none, .mv (.t 65), [], false⟩])
 .ret))))))))⟩
theorem a13_ok : afn Try.prog 13 = some a13.er := by kernel_rfl
theorem F13_ok {x0 : (List Image)} {x1 : (List ByteArray)} {x2 : Int} {x3 : Int} {x4 : Int} {r : ((List Image)) × (List ByteArray)} (h : F13 x0 x1 x2 x3 x4 = some r) : CallD Try.prog 13 [.c (.d (.sl (x0.map eImage))), .c (.d (.sl (x1.map eS))), .c (.d (.v (.int .i64 x2))), .c (.d (.v (.int .i64 x3))), .c (.d (.v (.int .i64 x4)))] [] (tupV [.c (.d (.sl (r.1.map eImage))), .c (.own 0 0 0 (r.2.length) none)]) [some (.arr 0 1 (r.2.map eS))] := by
  refine callS a13_ok (by simp [a13]) ?_
  rw [F13] at h
  simp only [a13, VW.down, Nat.reduceEqDiff, reduceCtorEq, Nat.reduceAdd, Nat.reduceLeDiff, Nat.reduceLT, EE.down]
  obtain ⟨t1, ht1, h⟩ := Option.bind_eq_some_iff.1 h
  refine callX_n [] (F21_ok ht1) ?_ ?_ ?_ ?_ ?_ ?_
  · first | rfl | simp [nrmA, nrmC, nrm, A1.ren, C.ren, rn, List.length_set]
  · simp [liveAll, A1.live, C.live]
  · rfl
  · decide
  · exact trivial
  simp only [VW.down, Nat.reduceEqDiff, reduceCtorEq, Nat.reduceAdd, Nat.reduceLeDiff, Nat.reduceLT, EE.down]
  obtain ⟨t2, ht2, h⟩ := Option.bind_eq_some_iff.1 h
  refine callX_n [] (F21_ok ht2) ?_ ?_ ?_ ?_ ?_ ?_
  · first | rfl | simp [nrmA, nrmC, nrm, A1.ren, C.ren, rn, List.length_set]
  · simp [liveAll, A1.live, C.live]
  · rfl
  · decide
  · exact trivial
  simp only [VW.down, Nat.reduceEqDiff, reduceCtorEq, Nat.reduceAdd, Nat.reduceLeDiff, Nat.reduceLT, EE.down]
  obtain ⟨t3, ht3, h⟩ := Option.bind_eq_some_iff.1 h
  refine callX_n [] (F21_ok ht3) ?_ ?_ ?_ ?_ ?_ ?_
  · first | rfl | simp [nrmA, nrmC, nrm, A1.ren, C.ren, rn, List.length_set]
  · simp [liveAll, A1.live, C.live]
  · rfl
  · decide
  · exact trivial
  simp only [VW.down, Nat.reduceEqDiff, reduceCtorEq, Nat.reduceAdd, Nat.reduceLeDiff, Nat.reduceLT, EE.down]
  obtain ⟨t4, ht4, h⟩ := Option.bind_eq_some_iff.1 h
  refine callX_n [] (F16_ok ht4) ?_ ?_ ?_ ?_ ?_ ?_
  · first | rfl | simp [nrmA, nrmC, nrm, A1.ren, C.ren, rn, List.length_set]
  · simp [liveAll, A1.live, C.live]
  · rfl
  · decide
  · exact trivial
  simp only [VW.down, Nat.reduceEqDiff, reduceCtorEq, Nat.reduceAdd, Nat.reduceLeDiff, Nat.reduceLT, EE.down]
  refine condS (fun c5 => ?_) (fun c5 => ?_)
  · have h := (if_pos c5).symm.trans h
    simp only [VW.down, Nat.reduceEqDiff, reduceCtorEq, Nat.reduceAdd, Nat.reduceLeDiff, Nat.reduceLT, EE.down]
    obtain rfl := Option.some.inj h
    exact eF [none]
  · have h := (if_neg c5).symm.trans h
    simp only [VW.down, Nat.reduceEqDiff, reduceCtorEq, Nat.reduceAdd, Nat.reduceLeDiff, Nat.reduceLT, EE.down]
    obtain ⟨o6, ho, h⟩ := Option.bind_eq_some_iff.1 h
    refine cutS (fun s => ∃ po6, o6 = Sum.inr po6 ∧ s = ⟨[(0, .one (.c (.d (.sl (po6.1.map eImage))))), (12, .one (.c (.own 0 0 0 (po6.2.length) none)))], [some (.arr 0 1 (po6.2.map eS))]⟩) ?_ ?_
    · have h0o6 := h
      have h := ho
      clear ho
      simp only [VW.down, Nat.reduceEqDiff, reduceCtorEq, Nat.reduceAdd, Nat.reduceLeDiff, Nat.reduceLT, EE.down]
      refine bL (fun j s => ∃ (o6_0 : List Image) (o6_1 : List ByteArray), s = ⟨[(0, .one (.c (.d (.sl (o6_0.map eImage))))), (1, .one (.c (.d (.sl (x1.map eS))))), (2, .one (.c (.d (.v (.int .i64 t1))))), (4, .one (.c (.d (.v (.int .i64 t3))))), (12, .one (.c (.own 0 0 0 (o6_1.length) none)))], [some (.arr 0 1 (o6_1.map eS))]⟩ ∧ F13_l6 t1 t3 x1 j o6_0 o6_1 = some o6) 1099511627776 [none] ⟨x0, [], rfl, h⟩ ?_
      rintro j _ ⟨o6_0, o6_1, rfl, h⟩
      cases j with
      | zero => cases (show (none : Option _) = some _ from h)
      | succ j =>
        rw [F13_l6] at h
        simp only [VW.down, Nat.reduceEqDiff, reduceCtorEq, Nat.reduceAdd, Nat.reduceLeDiff, Nat.reduceLT, EE.down]
        obtain ⟨t7, ht7, h⟩ := Option.bind_eq_some_iff.1 h
        refine callX_n [] (F16_ok ht7) ?_ ?_ ?_ ?_ ?_ ?_
        · first | rfl | simp [nrmA, nrmC, nrm, A1.ren, C.ren, rn, List.length_set]
        · simp [liveAll, A1.live, C.live]
        · rfl
        · decide
        · exact trivial
        simp only [VW.down, Nat.reduceEqDiff, reduceCtorEq, Nat.reduceAdd, Nat.reduceLeDiff, Nat.reduceLT, EE.down]
        refine condS (fun c8 => ?_) (fun c8 => ?_)
        · have h := (if_pos c8).symm.trans h
          simp only [VW.down, Nat.reduceEqDiff, reduceCtorEq, Nat.reduceAdd, Nat.reduceLeDiff, Nat.reduceLT, EE.down]
          obtain ⟨t9, ht9, h⟩ := Option.bind_eq_some_iff.1 h
          refine callX_n [] (F25_ok ht9) ?_ ?_ ?_ ?_ ?_ ?_
          · first | rfl | simp [nrmA, nrmC, nrm, A1.ren, C.ren, rn, List.length_set]
          · simp [liveAll, A1.live, C.live]
          · rfl
          · decide
          · exact trivial
          simp only [VW.down, Nat.reduceEqDiff, reduceCtorEq, Nat.reduceAdd, Nat.reduceLeDiff, Nat.reduceLT, EE.down]
          refine condS (fun c10 => ?_) (fun c10 => ?_)
          · have h := (if_pos c10).symm.trans h
            simp only [VW.down, Nat.reduceEqDiff, reduceCtorEq, Nat.reduceAdd, Nat.reduceLeDiff, Nat.reduceLT, EE.down]
            obtain ⟨fh0o6, hfh0o6, rfl⟩ := Option.map_eq_some_iff.1 h
            have h := hfh0o6.trans h0o6
            obtain rfl := Option.some.inj h
            exact eF [some 0]
          · have h := (if_neg c10).symm.trans h
            simp only [VW.down, Nat.reduceEqDiff, reduceCtorEq, Nat.reduceAdd, Nat.reduceLeDiff, Nat.reduceLT, EE.down]
            obtain ⟨y11, hy11, h⟩ := Option.bind_eq_some_iff.1 h
            refine t_idxF (enc := eImage) (xs := o6_0) rfl rfl hy11 rfl ?_
            simp only [VW.down, Nat.reduceEqDiff, reduceCtorEq, Nat.reduceAdd, Nat.reduceLeDiff, Nat.reduceLT, EE.down]
            refine t_bslice (enc := eS) (ys := [y11.Name]) rfl rfl (by simp [A1.cells]) rfl ?_
            simp only [VW.down, Nat.reduceEqDiff, reduceCtorEq, Nat.reduceAdd, Nat.reduceLeDiff, Nat.reduceLT, EE.down]
            obtain ⟨a12, ha12, h⟩ := Option.bind_eq_some_iff.1 h
            refine t_app (enc := eS) (xs := o6_1) rfl rfl (by first | rfl | simp only [List.length_set]) rfl (rows_full (enc := eS) (by first | rfl | simp only [List.length_set]) rfl) ha12 ?_
            simp only [VW.down, Nat.reduceEqDiff, reduceCtorEq, Nat.reduceAdd, Nat.reduceLeDiff, Nat.reduceLT, EE.down]
            refine t_bslice (enc := eImage) (ys := ([] : List Image)) rfl rfl (by simp [A1.cells]) rfl ?_
            simp only [VW.down, Nat.reduceEqDiff, reduceCtorEq, Nat.reduceAdd, Nat.reduceLeDiff, Nat.reduceLT, EE.down]
            obtain ⟨s13, hs13, h⟩ := Option.bind_eq_some_iff.1 h
            refine t_slice (enc := eImage) (xs := o6_0) rfl rfl rfl (fun _ => rfl) hs13 ?_
            simp only [VW.down, Nat.reduceEqDiff, reduceCtorEq, Nat.reduceAdd, Nat.reduceLeDiff, Nat.reduceLT, EE.down]
            obtain ⟨a14, ha14, h⟩ := Option.bind_eq_some_iff.1 h
            refine t_app (enc := eImage) (xs := ([] : List Image)) rfl rfl (by first | rfl | simp only [List.length_set]) rfl (rows_frz (enc := eImage) fun _ => rfl) ha14 ?_
            simp only [VW.down, Nat.reduceEqDiff, reduceCtorEq, Nat.reduceAdd, Nat.reduceLeDiff, Nat.reduceLT, EE.down]
            obtain ⟨s15, hs15, h⟩ := Option.bind_eq_some_iff.1 h
            refine t_slice (enc := eImage) (xs := o6_0) rfl rfl rfl (fun _ => rfl) hs15 ?_
            simp only [VW.down, Nat.reduceEqDiff, reduceCtorEq, Nat.reduceAdd, Nat.reduceLeDiff, Nat.reduceLT, EE.down]
            obtain ⟨a16, ha16, h⟩ := Option.bind_eq_some_iff.1 h
            refine t_app (enc := eImage) (xs := a14) rfl rfl (by first | rfl | simp only [List.length_set]) rfl (rows_frz (enc := eImage) fun _ => rfl) ha16 ?_
            simp only [VW.down, Nat.reduceEqDiff, reduceCtorEq, Nat.reduceAdd, Nat.reduceLeDiff, Nat.reduceLT, EE.down]
            exact eL' j [some 0] ⟨a16, a12, rfl, h⟩ (Nat.lt_succ_self _)
        · have h := (if_neg c8).symm.trans h
          simp only [VW.down, Nat.reduceEqDiff, reduceCtorEq, Nat.reduceAdd, Nat.reduceLeDiff, Nat.reduceLT, EE.down]
          obtain rfl := Option.some.inj h
          exact eM [some 0] ⟨_, rfl, rfl⟩
    · rintro _ ⟨po6, rfl, rfl⟩
      clear ho
      dsimp only at h
      simp only [VW.down, Nat.reduceEqDiff, reduceCtorEq, Nat.reduceAdd, Nat.reduceLeDiff, Nat.reduceLT, EE.down]
      obtain rfl := Option.some.inj h
      exact eF [some 0]

/- orchestrator/orchestratorlaw52.ImageCollects -/
def F4 (x0 : (List Image)) (x1 : (List ByteArray)) (x2 : Int) (x3 : Int) (x4 : Int) : Option (Bool) := (((F7 x0).bind fun t2 => (if (nb t2) = true then some true else some (decide (100 < (x1.length : Int))))).bind fun o1 => (if o1 = true then (F8).bind fun t5 => some t5 else (F12 x0 x1 x2 x3 x4).bind fun t6 => (F13 x0 x1 x2 x3 x4).bind fun t7 => (((F10 t6.1 t7.1).bind fun t9 => (if t9 = true then (F14 t6.2 t7.2).bind fun t11 => (if t11 = true then (F8).bind fun t13 => some t13 else some false) else some false)).bind fun o8 => some o8)))
def a4 : AFn := ⟨53, [(.tmp 10)],
 (.seq (.reg [⟨(some 10), none, .mv (kB false), [], true⟩])
 (.seq (.seq (.sem (.reg [⟨(some 15), none, .mv (.t 0), [], false⟩,
   ⟨(some 16), none, .call 7 [(.t 15)], [], false⟩,
   ⟨(some 17), none, .not (.t 16), [], false⟩,
   ⟨(some 18), none, .mv (.t 17), [], false⟩,
   ⟨(some 19), (some (18, false)), .mv (.t 1), [], false⟩,
   ⟨(some 20), (some (18, false)), .len (.t 19), [], false⟩,
   ⟨(some 21), (some (18, false)), .bin .gtr (.t 20) (kI 100), [], false⟩,
   ⟨(some 22), none, .pick (.t 18) (kB true) (.t 21), [], false⟩]))
 (.cond (.t 22)
 (.seq (.reg [⟨(some 23), none, .call 8 [], [], false⟩,
   ⟨(some 10), none, .mv (.t 23), [], false⟩])
 .ret)
 .skip))
 (.seq (.reg [⟨(some 25), none, .mv (.t 0), [], false⟩,
   ⟨(some 26), none, .mv (.t 1), [], false⟩,
   ⟨(some 27), none, .mv (.t 2), [], false⟩,
   ⟨(some 28), none, .mv (.t 3), [], false⟩,
   ⟨(some 29), none, .mv (.t 4), [], false⟩,
   ⟨(some 30), none, .call 12 [(.t 25), (.t 26), (.t 27), (.t 28), (.t 29)], [], false⟩,
   ⟨(some 24), none, .mv (.t 30), [], false⟩,
   ⟨(some 31), none, .ext (.t 24) 0, [], false⟩,
   ⟨(some 32), none, .ext (.t 24) 1, [], false⟩,
   ⟨(some 11), none, .mv (.t 31), [], false⟩,
   ⟨(some 12), none, .mv (.t 32), [], false⟩])
 (.seq (.reg [⟨(some 34), none, .mv (.t 0), [], false⟩,
   ⟨(some 35), none, .mv (.t 1), [], false⟩,
   ⟨(some 36), none, .mv (.t 2), [], false⟩,
   ⟨(some 37), none, .mv (.t 3), [], false⟩,
   ⟨(some 38), none, .mv (.t 4), [], false⟩,
   ⟨(some 39), none, .call 13 [(.t 34), (.t 35), (.t 36), (.t 37), (.t 38)], [], false⟩,
   ⟨(some 33), none, .mv (.t 39), [], false⟩,
   ⟨(some 40), none, .ext (.t 33) 0, [], false⟩,
   ⟨(some 41), none, .ext (.t 33) 1, [], false⟩,
   ⟨(some 13), none, .mv (.t 40), [], false⟩,
   ⟨(some 14), none, .mv (.t 41), [], false⟩])
 (.seq (.sem (.reg [⟨(some 42), none, .mv (.t 11), [], false⟩,
   ⟨(some 43), none, .mv (.t 13), [], false⟩,
   ⟨(some 44), none, .call 10 [(.t 42), (.t 43)], [], false⟩,
   ⟨(some 45), none, .mv (.t 44), [], false⟩,
   ⟨(some 46), (some (45, true)), .mv (.t 12), [], false⟩,
   ⟨(some 47), (some (45, true)), .mv (.t 14), [], false⟩,
   ⟨(some 48), (some (45, true)), .call 14 [(.t 46), (.t 47)], [], false⟩,
   ⟨(some 49), none, .pick (.t 45) (.t 48) (kB false), [], false⟩,
   ⟨(some 50), none, .mv (.t 49), [], false⟩,
   ⟨(some 51), (some (50, true)), .call 8 [], [], false⟩,
   ⟨(some 52), none, .pick (.t 50) (.t 51) (kB false), [], false⟩,
   ⟨(some 10), none, .mv (.t 52), [], false⟩]))
 .ret)))))⟩
theorem a4_ok : afn Try.prog 4 = some a4.er := by kernel_rfl
theorem F4_ok {x0 : (List Image)} {x1 : (List ByteArray)} {x2 : Int} {x3 : Int} {x4 : Int} {r : Bool} (h : F4 x0 x1 x2 x3 x4 = some r) : CallD Try.prog 4 [.c (.d (.sl (x0.map eImage))), .c (.d (.sl (x1.map eS))), .c (.d (.v (.int .i64 x2))), .c (.d (.v (.int .i64 x3))), .c (.d (.v (.int .i64 x4)))] [] (tupV [.c (.d (.v (.bool r)))]) [] := by
  refine callS a4_ok (by simp [a4]) ?_
  rw [F4] at h
  simp only [a4, VW.down, Nat.reduceEqDiff, reduceCtorEq, Nat.reduceAdd, Nat.reduceLeDiff, Nat.reduceLT, EE.down]
  obtain ⟨o1, ho, h⟩ := Option.bind_eq_some_iff.1 h
  refine cutS (fun s => s = ⟨[(0, .one (.c (.d (.sl (x0.map eImage))))), (1, .one (.c (.d (.sl (x1.map eS))))), (2, .one (.c (.d (.v (.int .i64 x2))))), (3, .one (.c (.d (.v (.int .i64 x3))))), (4, .one (.c (.d (.v (.int .i64 x4))))), (22, .one (.c (.d (.v (.bool o1)))))], []⟩) ?_ ?_
  · have h := ho
    clear ho
    simp only [VW.down, Nat.reduceEqDiff, reduceCtorEq, Nat.reduceAdd, Nat.reduceLeDiff, Nat.reduceLT, EE.down]
    obtain ⟨t2, ht2, h⟩ := Option.bind_eq_some_iff.1 h
    refine callX_n [] (F7_ok ht2) ?_ ?_ ?_ ?_ ?_ ?_
    · first | rfl | simp [nrmA, nrmC, nrm, A1.ren, C.ren, rn, List.length_set]
    · simp [liveAll, A1.live, C.live]
    · rfl
    · decide
    · exact trivial
    simp only [VW.down, Nat.reduceEqDiff, reduceCtorEq, Nat.reduceAdd, Nat.reduceLeDiff, Nat.reduceLT, EE.down]
    refine guardSB (fun g3 => ?_) (fun g3 => ?_)
    · have h := (if_pos g3).symm.trans h
      simp only [VW.down, Nat.reduceEqDiff, reduceCtorEq, Nat.reduceAdd, Nat.reduceLeDiff, Nat.reduceLT, EE.down]
      obtain rfl := Option.some.inj h
      exact eM [] rfl
    · have h := (if_neg g3).symm.trans h
      simp only [VW.down, Nat.reduceEqDiff, reduceCtorEq, Nat.reduceAdd, Nat.reduceLeDiff, Nat.reduceLT, EE.down]
      obtain rfl := Option.some.inj h
      exact eM [] rfl
  · rintro _ rfl
    clear ho
    simp only [VW.down, Nat.reduceEqDiff, reduceCtorEq, Nat.reduceAdd, Nat.reduceLeDiff, Nat.reduceLT, EE.down]
    refine condB (fun c4 => ?_) (fun c4 => ?_)
    · have h := (if_pos c4).symm.trans h
      simp only [VW.down, Nat.reduceEqDiff, reduceCtorEq, Nat.reduceAdd, Nat.reduceLeDiff, Nat.reduceLT, EE.down]
      obtain ⟨t5, ht5, h⟩ := Option.bind_eq_some_iff.1 h
      refine callX_n [] (F8_ok ht5) ?_ ?_ ?_ ?_ ?_ ?_
      · first | rfl | simp [nrmA, nrmC, nrm, A1.ren, C.ren, rn, List.length_set]
      · simp [liveAll, A1.live, C.live]
      · rfl
      · decide
      · exact trivial
      simp only [VW.down, Nat.reduceEqDiff, reduceCtorEq, Nat.reduceAdd, Nat.reduceLeDiff, Nat.reduceLT, EE.down]
      obtain rfl := Option.some.inj h
      exact eF []
    · have h := (if_neg c4).symm.trans h
      simp only [VW.down, Nat.reduceEqDiff, reduceCtorEq, Nat.reduceAdd, Nat.reduceLeDiff, Nat.reduceLT, EE.down]
      obtain ⟨t6, ht6, h⟩ := Option.bind_eq_some_iff.1 h
      refine callX_n [] (F12_ok ht6) ?_ ?_ ?_ ?_ ?_ ?_
      · first | rfl | simp [nrmA, nrmC, nrm, A1.ren, C.ren, rn, List.length_set]
      · simp [liveAll, A1.live, C.live]
      · rfl
      · decide
      · exact trivial
      simp only [VW.down, Nat.reduceEqDiff, reduceCtorEq, Nat.reduceAdd, Nat.reduceLeDiff, Nat.reduceLT, EE.down]
      obtain ⟨t7, ht7, h⟩ := Option.bind_eq_some_iff.1 h
      refine callX_n [] (F13_ok ht7) ?_ ?_ ?_ ?_ ?_ ?_
      · first | rfl | simp [nrmA, nrmC, nrm, A1.ren, C.ren, rn, List.length_set]
      · simp [liveAll, A1.live, C.live]
      · rfl
      · decide
      · exact trivial
      simp only [VW.down, Nat.reduceEqDiff, reduceCtorEq, Nat.reduceAdd, Nat.reduceLeDiff, Nat.reduceLT, EE.down]
      obtain ⟨o8, ho, h⟩ := Option.bind_eq_some_iff.1 h
      refine cutS (fun s => s = ⟨[(10, .one (.c (.d (.v (.bool o8)))))], []⟩) ?_ ?_
      · have h := ho
        clear ho
        simp only [VW.down, Nat.reduceEqDiff, reduceCtorEq, Nat.reduceAdd, Nat.reduceLeDiff, Nat.reduceLT, EE.down]
        obtain ⟨t9, ht9, h⟩ := Option.bind_eq_some_iff.1 h
        refine callX_bor (F10_ok ht9) (by simp only [borAs, bors, hp, List.getElem?_cons_zero, List.getElem?_cons_succ, Option.join_some, List.drop_zero, bor_full', true_and, Nat.zero_add, List.length_map, Nat.le_refl, nrm, List.length_cons, List.length_nil, Nat.reduceAdd, Nat.reduceLeDiff, List.take_succ_cons, List.take_zero, List.take_nil, List.map_cons, List.map_nil, List.length_set, EE.down]) rfl ?_
        simp only [VW.down, Nat.reduceEqDiff, reduceCtorEq, Nat.reduceAdd, Nat.reduceLeDiff, Nat.reduceLT, EE.down]
        refine guardSB (fun g10 => ?_) (fun g10 => ?_)
        · have h := (if_pos g10).symm.trans h
          simp only [VW.down, Nat.reduceEqDiff, reduceCtorEq, Nat.reduceAdd, Nat.reduceLeDiff, Nat.reduceLT, EE.down]
          obtain ⟨t11, ht11, h⟩ := Option.bind_eq_some_iff.1 h
          refine callX_bor (F14_ok ht11) (by simp only [borAs, bors, hp, List.getElem?_cons_zero, List.getElem?_cons_succ, Option.join_some, List.drop_zero, bor_full', true_and, Nat.zero_add, List.length_map, Nat.le_refl, nrm, List.length_cons, List.length_nil, Nat.reduceAdd, Nat.reduceLeDiff, List.take_succ_cons, List.take_zero, List.take_nil, List.map_cons, List.map_nil, List.length_set, EE.down]) rfl ?_
          simp only [VW.down, Nat.reduceEqDiff, reduceCtorEq, Nat.reduceAdd, Nat.reduceLeDiff, Nat.reduceLT, EE.down]
          refine guardSB (fun g12 => ?_) (fun g12 => ?_)
          · have h := (if_pos g12).symm.trans h
            simp only [VW.down, Nat.reduceEqDiff, reduceCtorEq, Nat.reduceAdd, Nat.reduceLeDiff, Nat.reduceLT, EE.down]
            obtain ⟨t13, ht13, h⟩ := Option.bind_eq_some_iff.1 h
            refine callX_n [] (F8_ok ht13) ?_ ?_ ?_ ?_ ?_ ?_
            · first | rfl | simp [nrmA, nrmC, nrm, A1.ren, C.ren, rn, List.length_set]
            · simp [liveAll, A1.live, C.live]
            · rfl
            · decide
            · exact trivial
            simp only [VW.down, Nat.reduceEqDiff, reduceCtorEq, Nat.reduceAdd, Nat.reduceLeDiff, Nat.reduceLT, EE.down]
            obtain rfl := Option.some.inj h
            exact eM [] rfl
          · have h := (if_neg g12).symm.trans h
            simp only [VW.down, Nat.reduceEqDiff, reduceCtorEq, Nat.reduceAdd, Nat.reduceLeDiff, Nat.reduceLT, EE.down]
            obtain rfl := Option.some.inj h
            exact eM [] rfl
        · have h := (if_neg g10).symm.trans h
          simp only [VW.down, Nat.reduceEqDiff, reduceCtorEq, Nat.reduceAdd, Nat.reduceLeDiff, Nat.reduceLT, EE.down]
          obtain rfl := Option.some.inj h
          exact eM [] rfl
      · rintro _ rfl
        clear ho
        simp only [VW.down, Nat.reduceEqDiff, reduceCtorEq, Nat.reduceAdd, Nat.reduceLeDiff, Nat.reduceLT, EE.down]
        obtain rfl := Option.some.inj h
        exact eF []

/- orchestrator/orchestratorlaw52.in -/
def F15_l1 (x1 : ByteArray) : List ByteArray → Nat → Option ((Bool) ⊕ (Unit))
  | [], o1_0 => some (Sum.inr (()))
  | xo1 :: xs, o1_0 => (if xo1 = x1 then (some true).map Sum.inl else F15_l1 x1 xs (o1_0 + 1))
def F15 (x0 : (List ByteArray)) (x1 : ByteArray) : Option (Bool) := (((ck (0 ≤ x0.length ∧ x0.length ≤ 4294967290)).bind fun u4 => F15_l1 x1 x0 0).bind fun o1 => match o1 with | Sum.inl f => some f | Sum.inr po1 => some false)
def a15 : AFn := ⟨17, [(.tmp 4)],
 (.seq (.reg [⟨(some 4), none, .mv (kB false), [], true⟩])
 (.seq (.seq (.reg [⟨(some 7), none, .mv (.t 0), [], false⟩,
   ⟨(some 8), none, .len (.t 7), [], false⟩,
   ⟨(some 9), none, .mv (kI 0), [], false⟩])
 (.sem (.block 0 (.loop (.seq (.reg [⟨(some 10), none, .bin .lss (.t 9) (.t 8), [], true⟩])
 (.seq (.cond (.t 10)
 .skip
 (.exit 0))
 (.seq (.block 1 (.seq (.reg [⟨(some 11), none, .indexA 1 (.t 7) (.t 9), [], false⟩,
   ⟨(some 12), none, .load none (.t 11), [], false⟩,
   ⟨(some 6), none, .mv (.t 12), [], false⟩])
 (.seq (.reg [⟨(some 13), none, .mv (.t 6), [], false⟩,
   ⟨(some 14), none, .mv (.t 1), [], false⟩,
   ⟨(some 15), none, .bin .eql (.t 13) (.t 14), [], false⟩])
 (.cond (.t 15)
 (.seq (.reg [⟨(some 4), none, .mv (kB true), [], true⟩])
 .ret)
 .skip))))
 (.reg [⟨(some 16), none, .bin .add (.t 9) (kI 1), [], false⟩,
   ⟨(some 9), none, .mv (.t 16), [], false⟩]))))))))
 (.seq (.reg [⟨(some 4), none, .mv (kB false), [], true⟩])
 .ret)))⟩
theorem a15_ok : afn Try.prog 15 = some a15.er := by kernel_rfl
theorem F15_ok {x0 : (List ByteArray)} {x1 : ByteArray} {r : Bool} (h : F15 x0 x1 = some r) : CallD Try.prog 15 [.c (.d (.sl (x0.map eS))), .c (.d (.v (.string x1)))] [] (tupV [.c (.d (.v (.bool r)))]) [] := by
  refine callS a15_ok (by simp [a15]) ?_
  rw [F15] at h
  simp only [a15, VW.down, Nat.reduceEqDiff, reduceCtorEq, Nat.reduceAdd, Nat.reduceLeDiff, Nat.reduceLT, EE.down]
  obtain ⟨o1, ho, h⟩ := Option.bind_eq_some_iff.1 h
  refine cutS (fun s => ∃ po1, o1 = Sum.inr po1 ∧ s = ⟨[], []⟩) ?_ ?_
  · have h0o1 := h
    have h := ho
    clear ho
    obtain ⟨_, hk, h⟩ := Option.bind_eq_some_iff.1 h
    have hk := ck_some hk
    simp only [VW.down, Nat.reduceEqDiff, reduceCtorEq, Nat.reduceAdd, Nat.reduceLeDiff, Nat.reduceLT, EE.down]
    refine bL (fun j s => ∃ (o1_0 : Nat), (o1_0 ≤ x0.length ∧ j = x0.length - o1_0) ∧ s = ⟨[(1, .one (.c (.d (.v (.string x1))))), (7, .one (.c (.d (.sl (x0.map eS))))), (8, .one (.c (.d (.v (.int .i64 ((x0.length : Int))))))), (9, .one (.c (.d (.v (.int .i64 ((o1_0 : Int)))))))], []⟩ ∧ F15_l1 x1 (x0.drop o1_0) o1_0 = some o1) (x0.length - 0) [] ⟨0, ⟨hk.1, rfl⟩, rfl, h⟩ ?_
    rintro _ _ ⟨o1_0, ⟨hi, rfl⟩, rfl, h⟩
    simp only [VW.down, Nat.reduceEqDiff, reduceCtorEq, Nat.reduceAdd, Nat.reduceLeDiff, Nat.reduceLT, EE.down]
    refine condS (fun c2 => ?_) (fun c2 => ?_)
    · obtain ⟨xo1, hxo1, hd⟩ := countY c2
      rw [hd, F15_l1] at h
      simp only [VW.down, Nat.reduceEqDiff, reduceCtorEq, Nat.reduceAdd, Nat.reduceLeDiff, Nat.reduceLT, EE.down]
      refine t_idxF (enc := eS) (xs := x0) rfl rfl hxo1 rfl ?_
      simp only [VW.down, Nat.reduceEqDiff, reduceCtorEq, Nat.reduceAdd, Nat.reduceLeDiff, Nat.reduceLT, EE.down]
      refine condS (fun c3 => ?_) (fun c3 => ?_)
      · have h := (if_pos c3).symm.trans h
        simp only [VW.down, Nat.reduceEqDiff, reduceCtorEq, Nat.reduceAdd, Nat.reduceLeDiff, Nat.reduceLT, EE.down]
        obtain ⟨fh0o1, hfh0o1, rfl⟩ := Option.map_eq_some_iff.1 h
        have h := hfh0o1.trans h0o1
        obtain rfl := Option.some.inj h
        exact eF []
      · have h := (if_neg c3).symm.trans h
        simp only [VW.down, Nat.reduceEqDiff, reduceCtorEq, Nat.reduceAdd, Nat.reduceLeDiff, Nat.reduceLT, EE.down]
        rw [wrapN (by omega)]
        exact eL' (x0.length - (o1_0 + 1)) [] ⟨o1_0 + 1, ⟨by omega, rfl⟩, rfl, h⟩ (by omega)
    · rw [countN c2, F15_l1] at h
      simp only [VW.down, Nat.reduceEqDiff, reduceCtorEq, Nat.reduceAdd, Nat.reduceLeDiff, Nat.reduceLT, EE.down]
      obtain rfl := Option.some.inj h
      exact eM [] ⟨_, rfl, rfl⟩
  · rintro _ ⟨po1, rfl, rfl⟩
    clear ho
    dsimp only at h
    simp only [VW.down, Nat.reduceEqDiff, reduceCtorEq, Nat.reduceAdd, Nat.reduceLeDiff, Nat.reduceLT, EE.down]
    obtain rfl := Option.some.inj h
    exact eF []

/- orchestrator/orchestratorlaw52.ImageKeepsUsed -/
def F5_l15 (x1 : (List ByteArray)) (xo8 : Image) : List Image → Nat → Option ((((Bool) ⊕ (Unit)) ⊕ (Int)) ⊕ (Unit))
  | [], o15_0 => some (Sum.inr (()))
  | xo15 :: xs, o15_0 => (((F15 x1 xo15.Name).bind fun t18 => (if (nb t18) = true then (if xo15.Used < xo8.Used then some true else (if xo15.Used = xo8.Used then some (Op.bytesLess xo15.Name.toList xo8.Name.toList) else some false)) else some false)).bind fun o17 => (if o17 = true then (((some false).map Sum.inl).map Sum.inl).map Sum.inl else F5_l15 x1 xo8 xs (o15_0 + 1)))
def F5_l8 (t6 : (List Image) × (List ByteArray)) (x1 : (List ByteArray)) : List Image → Nat → Int → Option ((Bool) ⊕ (Unit))
  | [], o8_1, o8_0 => some (Sum.inr (()))
  | xo8 :: xs, o8_1, o8_0 => (((F15 t6.2 xo8.Name).bind fun t11 => (if t11 = true then (F15 x1 xo8.Name).bind fun t13 => (if t13 = true then ((some false).map Sum.inl).map Sum.inl else (((ck (0 ≤ t6.1.length ∧ t6.1.length ≤ 4294967290)).bind fun u23 => F5_l15 x1 xo8 t6.1 0).bind fun o15 => match o15 with | Sum.inl f => some f | Sum.inr po15 => some (Sum.inr o8_0))) else (((if (t6.1.length : Int) ≤ o8_0 then some true else (rdI t6.1 o8_0).bind fun y26 => some (decide (¬ (y26.Name = xo8.Name ∧ y26.Size = xo8.Size ∧ y26.Used = xo8.Used))))).bind fun o24 => (if o24 = true then ((some false).map Sum.inl).map Sum.inl else some (Sum.inr ((IntKind.i64.wrap (o8_0 + 1)))))))).bind fun o10 => match o10 with | Sum.inl f => some f | Sum.inr po10 => F5_l8 t6 x1 xs (o8_1 + 1) po10)
def F5 (x0 : (List Image)) (x1 : (List ByteArray)) (x2 : Int) (x3 : Int) (x4 : Int) : Option (Bool) := (((F7 x0).bind fun t2 => (if (nb t2) = true then some true else some (decide (100 < (x1.length : Int))))).bind fun o1 => (if o1 = true then (F8).bind fun t5 => some t5 else (F12 x0 x1 x2 x3 x4).bind fun t6 => (if ¬ ((IntKind.i64.wrap (((t6.1.length : Int)) + ((t6.2.length : Int)))) = (x0.length : Int)) then some false else (((ck (0 ≤ x0.length ∧ x0.length ≤ 4294967290)).bind fun u28 => F5_l8 t6 x1 x0 0 0).bind fun o8 => match o8 with | Sum.inl f => some f | Sum.inr po8 => (F8).bind fun t29 => some t29))))
def a5 : AFn := ⟨107, [(.tmp 10)],
 (.seq (.reg [⟨(some 10), none, .mv (kB false), [], true⟩])
 (.seq (.seq (.sem (.reg [⟨(some 18), none, .mv (.t 0), [], false⟩,
   ⟨(some 19), none, .call 7 [(.t 18)], [], false⟩,
   ⟨(some 20), none, .not (.t 19), [], false⟩,
   ⟨(some 21), none, .mv (.t 20), [], false⟩,
   ⟨(some 22), (some (21, false)), .mv (.t 1), [], false⟩,
   ⟨(some 23), (some (21, false)), .len (.t 22), [], false⟩,
   ⟨(some 24), (some (21, false)), .bin .gtr (.t 23) (kI 100), [], false⟩,
   ⟨(some 25), none, .pick (.t 21) (kB true) (.t 24), [], false⟩]))
 (.cond (.t 25)
 (.seq (.reg [⟨(some 26), none, .call 8 [], [], false⟩,
   ⟨(some 10), none, .mv (.t 26), [], false⟩])
 .ret)
 .skip))
 (.seq (.reg [⟨(some 28), none, .mv (.t 0), [], false⟩,
   ⟨(some 29), none, .mv (.t 1), [], false⟩,
   ⟨(some 30), none, .mv (.t 2), [], false⟩,
   ⟨(some 31), none, .mv (.t 3), [], false⟩,
   ⟨(some 32), none, .mv (.t 4), [], false⟩,
   ⟨(some 33), none, .call 12 [(.t 28), (.t 29), (.t 30), (.t 31), (.t 32)], [], false⟩,
   ⟨(some 27), none, .mv (.t 33), [], false⟩,
   ⟨(some 34), none, .ext (.t 27) 0, [], false⟩,
   ⟨(some 35), none, .ext (.t 27) 1, [], false⟩,
   ⟨(some 11), none, .mv (.t 34), [], false⟩,
   ⟨(some 12), none, .mv (.t 35), [], false⟩])
 (.seq (.seq (.reg [⟨(some 36), none, .mv (.t 11), [], false⟩,
   ⟨(some 37), none, .len (.t 36), [], false⟩,
   ⟨(some 38), none, .mv (.t 12), [], false⟩,
   ⟨(some 39), none, .len (.t 38), [], false⟩,
   ⟨(some 40), none, .bin .add (.t 37) (.t 39), [], false⟩,
   ⟨(some 41), none, .mv (.t 0), [], false⟩,
   ⟨(some 42), none, .len (.t 41), [], false⟩,
   ⟨(some 43), none, .bin .neq (.t 40) (.t 42), [], false⟩])
 (.cond (.t 43)
 (.seq (.reg [⟨(some 10), none, .mv (kB false), [], true⟩])
 .ret)
 .skip))
 (.seq (.reg [⟨(some 13), none, .mv (kI 0), [], true⟩])
 (.seq (.seq (.reg [⟨(some 44), none, .mv (.t 0), [], false⟩,
   ⟨(some 45), none, .len (.t 44), [], false⟩,
   ⟨(some 46), none, .mv (kI 0), [], false⟩])
 (.sem (.block 0 (.loop (.seq (.reg [⟨(some 47), none, .bin .lss (.t 46) (.t 45), [], true⟩])
 (.seq (.cond (.t 47)
 .skip
 (.exit 0))
 (.seq (.sem (.block 1 (.seq (.reg [⟨(some 48), none, .indexA 3 (.t 44) (.t 46), [], false⟩,
   ⟨(some 49), none, .load (some 3) (.t 48), [], false⟩,
   ⟨(some 15), none, .zbox [.d (.v (.string ⟨#[]⟩)), .d (.v (.int .i64 0)), .d (.v (.int .i64 0))], [], false⟩,
   ⟨none, none, .store 3 (.t 15) (.t 49), [], false⟩])
 (.seq (.seq (.reg [⟨(some 50), none, .mv (.t 12), [], false⟩,
   ⟨(some 51), none, .fieldA 0 (.t 15), [], false⟩,
   ⟨(some 52), none, .load none (.t 51), [], false⟩,
   ⟨(some 53), none, .call 15 [(.t 50), (.t 52)], [], false⟩])
 (.cond (.t 53)
 (.seq (.seq (.reg [⟨(some 54), none, .mv (.t 1), [], false⟩,
   ⟨(some 55), none, .fieldA 0 (.t 15), [], false⟩,
   ⟨(some 56), none, .load none (.t 55), [], false⟩,
   ⟨(some 57), none, .call 15 [(.t 54), (.t 56)], [], false⟩])
 (.cond (.t 57)
 (.seq (.reg [⟨(some 10), none, .mv (kB false), [], true⟩])
 .ret)
 .skip))
 (.seq (.seq (.reg [⟨(some 58), none, .mv (.t 11), [], false⟩,
   ⟨(some 59), none, .len (.t 58), [], false⟩,
   ⟨(some 60), none, .mv (kI 0), [], false⟩])
 (.sem (.block 2 (.loop (.seq (.reg [⟨(some 61), none, .bin .lss (.t 60) (.t 59), [], true⟩])
 (.seq (.cond (.t 61)
 .skip
 (.exit 2))
 (.seq (.block 3 (.seq (.reg [⟨(some 62), none, .indexA 3 (.t 58) (.t 60), [], false⟩,
   ⟨(some 63), none, .load (some 3) (.t 62), [], false⟩,
   ⟨(some 17), none, .zbox [.d (.v (.string ⟨#[]⟩)), .d (.v (.int .i64 0)), .d (.v (.int .i64 0))], [], false⟩,
   ⟨none, none, .store 3 (.t 17) (.t 63), [], false⟩])
 (.seq (.sem (.reg [⟨(some 64), none, .mv (.t 1), [], false⟩,
   ⟨(some 65), none, .fieldA 0 (.t 17), [], false⟩,
   ⟨(some 66), none, .load none (.t 65), [], false⟩,
   ⟨(some 67), none, .call 15 [(.t 64), (.t 66)], [], false⟩,
   ⟨(some 68), none, .not (.t 67), [], false⟩,
   ⟨(some 69), none, .mv (.t 68), [], false⟩,
   ⟨(some 70), (some (69, true)), .fieldA 2 (.t 17), [], false⟩,
   ⟨(some 71), (some (69, true)), .load none (.t 70), [], false⟩,
   ⟨(some 72), (some (69, true)), .fieldA 2 (.t 15), [], false⟩,
   ⟨(some 73), (some (69, true)), .load none (.t 72), [], false⟩,
   ⟨(some 74), (some (69, true)), .bin .lss (.t 71) (.t 73), [], false⟩,
   ⟨(some 75), (some (69, true)), .mv (.t 74), [], false⟩,
   ⟨(some 76), (some (75, false)), .fieldA 2 (.t 17), [], false⟩,
   ⟨(some 77), (some (75, false)), .load none (.t 76), [], false⟩,
   ⟨(some 78), (some (75, false)), .fieldA 2 (.t 15), [], false⟩,
   ⟨(some 79), (some (75, false)), .load none (.t 78), [], false⟩,
   ⟨(some 80), (some (75, false)), .bin .eql (.t 77) (.t 79), [], false⟩,
   ⟨(some 81), (some (75, false)), .mv (.t 80), [], false⟩,
   ⟨(some 82), (some (81, true)), .fieldA 0 (.t 17), [], false⟩,
   ⟨(some 83), (some (81, true)), .load none (.t 82), [], false⟩,
   ⟨(some 84), (some (81, true)), .fieldA 0 (.t 15), [], false⟩,
   ⟨(some 85), (some (81, true)), .load none (.t 84), [], false⟩,
   ⟨(some 86), (some (81, true)), .bin .lss (.t 83) (.t 85), [], false⟩,
   ⟨(some 87), (some (75, false)), .pick (.t 81) (.t 86) (kB false), [], false⟩,
   ⟨(some 88), (some (69, true)), .pick (.t 75) (kB true) (.t 87), [], false⟩,
   ⟨(some 89), none, .pick (.t 69) (.t 88) (kB false), [], false⟩]))
 (.cond (.t 89)
 (.seq (.reg [⟨(some 10), none, .mv (kB false), [], true⟩])
 .ret)
 .skip))))
 (.reg [⟨(some 90), none, .bin .add (.t 60) (kI 1), [], false⟩,
   ⟨(some 60), none, .mv (.t 90), [], false⟩]))))))))
 (.exit 1)))
 .skip))
 (.seq (.seq (.sem (.regd [⟨(some 91), none, .mv (.t 13), [], false⟩,
   ⟨(some 92), none, .mv (.t 11), [], false⟩,
   ⟨(some 93), none, .len (.t 92), [1], false⟩,
   ⟨(some 94), none, .bin .geq (.t 91) (.t 93), [0, 1, 2], true⟩,
   ⟨(some 95), none, .mv (.t 94), [0, 1, 2, 3], true⟩,
   ⟨(some 96), (some (95, false)), .mv (.t 11), [0, 1, 2, 3, 4], false⟩,
   ⟨(some 97), (some (95, false)), .mv (.t 13), [0, 1, 2, 3, 4], false⟩,
   ⟨(some 98), (some (95, false)), .indexA 3 (.t 96) (.t 97), [0, 1, 2, 3, 4, 5, 6], false⟩,
   ⟨(some 99), (some (95, false)), .load (some 3) (.t 98), [0, 1, 2, 3, 4, 5, 6, 7], false⟩,
   ⟨(some 100), (some (95, false)), .load (some 3) (.t 15), [0, 1, 2, 3, 4], false⟩,
   ⟨(some 101), (some (95, false)), .eqs true [(0, 2), (1, 0), (2, 0)] (.t 99) (.t 100), [0, 1, 2, 3, 4, 5, 6, 7, 8, 9], true⟩,
   ⟨(some 102), none, .pick (.t 95) (kB true) (.t 101), [0, 1, 2, 3, 4, 5, 6, 7, 8, 9, 10], true⟩]))
 (.cond (.t 102)
 (.seq (.reg [⟨(some 10), none, .mv (kB false), [], true⟩])
 .ret)
 .skip))
 (.reg [⟨(some 103), none, .mv (.t 13), [], false⟩,
   ⟨(some 104), none, .bin .add (.t 103) (kI 1), [], false⟩,
   ⟨(some 13), none, .mv (.t 104), [], false⟩]))))))
 (.reg [⟨(some 105), none, .bin .add (.t 46) (kI 1), [], false⟩,
   ⟨(some 46), none, .mv (.t 105), [], false⟩]))))))))
 (.seq (.reg [⟨(some 106), none, .call 8 [], [], false⟩,
   ⟨(some 10), none, .mv (.t 106), [], false⟩])
 .ret)))))))⟩
theorem a5_ok : afn Try.prog 5 = some a5.er := by kernel_rfl
theorem F5_ok {x0 : (List Image)} {x1 : (List ByteArray)} {x2 : Int} {x3 : Int} {x4 : Int} {r : Bool} (h : F5 x0 x1 x2 x3 x4 = some r) : CallD Try.prog 5 [.c (.d (.sl (x0.map eImage))), .c (.d (.sl (x1.map eS))), .c (.d (.v (.int .i64 x2))), .c (.d (.v (.int .i64 x3))), .c (.d (.v (.int .i64 x4)))] [] (tupV [.c (.d (.v (.bool r)))]) [] := by
  refine callS a5_ok (by simp [a5]) ?_
  rw [F5] at h
  simp only [a5, VW.down, Nat.reduceEqDiff, reduceCtorEq, Nat.reduceAdd, Nat.reduceLeDiff, Nat.reduceLT, EE.down]
  obtain ⟨o1, ho, h⟩ := Option.bind_eq_some_iff.1 h
  refine cutS (fun s => s = ⟨[(0, .one (.c (.d (.sl (x0.map eImage))))), (1, .one (.c (.d (.sl (x1.map eS))))), (2, .one (.c (.d (.v (.int .i64 x2))))), (3, .one (.c (.d (.v (.int .i64 x3))))), (4, .one (.c (.d (.v (.int .i64 x4))))), (25, .one (.c (.d (.v (.bool o1)))))], []⟩) ?_ ?_
  · have h := ho
    clear ho
    simp only [VW.down, Nat.reduceEqDiff, reduceCtorEq, Nat.reduceAdd, Nat.reduceLeDiff, Nat.reduceLT, EE.down]
    obtain ⟨t2, ht2, h⟩ := Option.bind_eq_some_iff.1 h
    refine callX_n [] (F7_ok ht2) ?_ ?_ ?_ ?_ ?_ ?_
    · first | rfl | simp [nrmA, nrmC, nrm, A1.ren, C.ren, rn, List.length_set]
    · simp [liveAll, A1.live, C.live]
    · rfl
    · decide
    · exact trivial
    simp only [VW.down, Nat.reduceEqDiff, reduceCtorEq, Nat.reduceAdd, Nat.reduceLeDiff, Nat.reduceLT, EE.down]
    refine guardSB (fun g3 => ?_) (fun g3 => ?_)
    · have h := (if_pos g3).symm.trans h
      simp only [VW.down, Nat.reduceEqDiff, reduceCtorEq, Nat.reduceAdd, Nat.reduceLeDiff, Nat.reduceLT, EE.down]
      obtain rfl := Option.some.inj h
      exact eM [] rfl
    · have h := (if_neg g3).symm.trans h
      simp only [VW.down, Nat.reduceEqDiff, reduceCtorEq, Nat.reduceAdd, Nat.reduceLeDiff, Nat.reduceLT, EE.down]
      obtain rfl := Option.some.inj h
      exact eM [] rfl
  · rintro _ rfl
    clear ho
    simp only [VW.down, Nat.reduceEqDiff, reduceCtorEq, Nat.reduceAdd, Nat.reduceLeDiff, Nat.reduceLT, EE.down]
    refine condB (fun c4 => ?_) (fun c4 => ?_)
    · have h := (if_pos c4).symm.trans h
      simp only [VW.down, Nat.reduceEqDiff, reduceCtorEq, Nat.reduceAdd, Nat.reduceLeDiff, Nat.reduceLT, EE.down]
      obtain ⟨t5, ht5, h⟩ := Option.bind_eq_some_iff.1 h
      refine callX_n [] (F8_ok ht5) ?_ ?_ ?_ ?_ ?_ ?_
      · first | rfl | simp [nrmA, nrmC, nrm, A1.ren, C.ren, rn, List.length_set]
      · simp [liveAll, A1.live, C.live]
      · rfl
      · decide
      · exact trivial
      simp only [VW.down, Nat.reduceEqDiff, reduceCtorEq, Nat.reduceAdd, Nat.reduceLeDiff, Nat.reduceLT, EE.down]
      obtain rfl := Option.some.inj h
      exact eF []
    · have h := (if_neg c4).symm.trans h
      simp only [VW.down, Nat.reduceEqDiff, reduceCtorEq, Nat.reduceAdd, Nat.reduceLeDiff, Nat.reduceLT, EE.down]
      obtain ⟨t6, ht6, h⟩ := Option.bind_eq_some_iff.1 h
      refine callX_n [] (F12_ok ht6) ?_ ?_ ?_ ?_ ?_ ?_
      · first | rfl | simp [nrmA, nrmC, nrm, A1.ren, C.ren, rn, List.length_set]
      · simp [liveAll, A1.live, C.live]
      · rfl
      · decide
      · exact trivial
      simp only [VW.down, Nat.reduceEqDiff, reduceCtorEq, Nat.reduceAdd, Nat.reduceLeDiff, Nat.reduceLT, EE.down]
      refine condS (fun c7 => ?_) (fun c7 => ?_)
      · have h := (if_pos c7).symm.trans h
        simp only [VW.down, Nat.reduceEqDiff, reduceCtorEq, Nat.reduceAdd, Nat.reduceLeDiff, Nat.reduceLT, EE.down]
        obtain rfl := Option.some.inj h
        exact eF []
      · have h := (if_neg c7).symm.trans h
        simp only [VW.down, Nat.reduceEqDiff, reduceCtorEq, Nat.reduceAdd, Nat.reduceLeDiff, Nat.reduceLT, EE.down]
        obtain ⟨o8, ho, h⟩ := Option.bind_eq_some_iff.1 h
        refine cutS (fun s => ∃ po8, o8 = Sum.inr po8 ∧ s = ⟨[], []⟩) ?_ ?_
        · have h0o8 := h
          have h := ho
          clear ho
          obtain ⟨_, hk, h⟩ := Option.bind_eq_some_iff.1 h
          have hk := ck_some hk
          simp only [VW.down, Nat.reduceEqDiff, reduceCtorEq, Nat.reduceAdd, Nat.reduceLeDiff, Nat.reduceLT, EE.down]
          refine bL (fun j s => ∃ (o8_1 : Nat) (o8_0 : Int), (o8_1 ≤ x0.length ∧ j = x0.length - o8_1) ∧ s = ⟨[(1, .one (.c (.d (.sl (x1.map eS))))), (11, .one (.c (.d (.sl (t6.1.map eImage))))), (12, .one (.c (.d (.sl (t6.2.map eS))))), (13, .one (.c (.d (.v (.int .i64 o8_0))))), (44, .one (.c (.d (.sl (x0.map eImage))))), (45, .one (.c (.d (.v (.int .i64 ((x0.length : Int))))))), (46, .one (.c (.d (.v (.int .i64 ((o8_1 : Int)))))))], []⟩ ∧ F5_l8 t6 x1 (x0.drop o8_1) o8_1 o8_0 = some o8) (x0.length - 0) [] ⟨0, 0, ⟨hk.1, rfl⟩, rfl, h⟩ ?_
          rintro _ _ ⟨o8_1, o8_0, ⟨hi, rfl⟩, rfl, h⟩
          simp only [VW.down, Nat.reduceEqDiff, reduceCtorEq, Nat.reduceAdd, Nat.reduceLeDiff, Nat.reduceLT, EE.down]
          refine condS (fun c9 => ?_) (fun c9 => ?_)
          · obtain ⟨xo8, hxo8, hd⟩ := countY c9
            rw [hd, F5_l8] at h
            simp only [VW.down, Nat.reduceEqDiff, reduceCtorEq, Nat.reduceAdd, Nat.reduceLeDiff, Nat.reduceLT, EE.down]
            obtain ⟨o10, ho, h⟩ := Option.bind_eq_some_iff.1 h
            refine cutS (fun s => ∃ po10, o10 = Sum.inr po10 ∧ s = ⟨[(1, .one (.c (.d (.sl (x1.map eS))))), (11, .one (.c (.d (.sl (t6.1.map eImage))))), (12, .one (.c (.d (.sl (t6.2.map eS))))), (13, .one (.c (.d (.v (.int .i64 po10))))), (44, .one (.c (.d (.sl (x0.map eImage))))), (45, .one (.c (.d (.v (.int .i64 ((x0.length : Int))))))), (46, .one (.c (.d (.v (.int .i64 ((o8_1 : Int)))))))], []⟩) ?_ ?_
            · have h0o10 := h
              have h := ho
              clear ho
              simp only [VW.down, Nat.reduceEqDiff, reduceCtorEq, Nat.reduceAdd, Nat.reduceLeDiff, Nat.reduceLT, EE.down]
              refine t_idxF (enc := eImage) (xs := x0) rfl rfl hxo8 rfl ?_
              simp only [VW.down, Nat.reduceEqDiff, reduceCtorEq, Nat.reduceAdd, Nat.reduceLeDiff, Nat.reduceLT, EE.down]
              obtain ⟨t11, ht11, h⟩ := Option.bind_eq_some_iff.1 h
              refine callX_n [] (F15_ok ht11) ?_ ?_ ?_ ?_ ?_ ?_
              · first | rfl | simp [nrmA, nrmC, nrm, A1.ren, C.ren, rn, List.length_set]
              · simp [liveAll, A1.live, C.live]
              · rfl
              · decide
              · exact trivial
              simp only [VW.down, Nat.reduceEqDiff, reduceCtorEq, Nat.reduceAdd, Nat.reduceLeDiff, Nat.reduceLT, EE.down]
              refine condB (fun c12 => ?_) (fun c12 => ?_)
              · have h := (if_pos c12).symm.trans h
                simp only [VW.down, Nat.reduceEqDiff, reduceCtorEq, Nat.reduceAdd, Nat.reduceLeDiff, Nat.reduceLT, EE.down]
                obtain ⟨t13, ht13, h⟩ := Option.bind_eq_some_iff.1 h
                refine callX_n [] (F15_ok ht13) ?_ ?_ ?_ ?_ ?_ ?_
                · first | rfl | simp [nrmA, nrmC, nrm, A1.ren, C.ren, rn, List.length_set]
                · simp [liveAll, A1.live, C.live]
                · rfl
                · decide
                · exact trivial
                simp only [VW.down, Nat.reduceEqDiff, reduceCtorEq, Nat.reduceAdd, Nat.reduceLeDiff, Nat.reduceLT, EE.down]
                refine condB (fun c14 => ?_) (fun c14 => ?_)
                · have h := (if_pos c14).symm.trans h
                  simp only [VW.down, Nat.reduceEqDiff, reduceCtorEq, Nat.reduceAdd, Nat.reduceLeDiff, Nat.reduceLT, EE.down]
                  obtain ⟨fh0o10, hfh0o10, rfl⟩ := Option.map_eq_some_iff.1 h
                  have h := hfh0o10.trans h0o10
                  obtain ⟨fh0o8, hfh0o8, rfl⟩ := Option.map_eq_some_iff.1 h
                  have h := hfh0o8.trans h0o8
                  obtain rfl := Option.some.inj h
                  exact eF []
                · have h := (if_neg c14).symm.trans h
                  simp only [VW.down, Nat.reduceEqDiff, reduceCtorEq, Nat.reduceAdd, Nat.reduceLeDiff, Nat.reduceLT, EE.down]
                  obtain ⟨o15, ho, h⟩ := Option.bind_eq_some_iff.1 h
                  refine cutS (fun s => ∃ po15, o15 = Sum.inr po15 ∧ s = ⟨[(1, .one (.c (.d (.sl (x1.map eS))))), (11, .one (.c (.d (.sl (t6.1.map eImage))))), (12, .one (.c (.d (.sl (t6.2.map eS))))), (13, .one (.c (.d (.v (.int .i64 o8_0))))), (44, .one (.c (.d (.sl (x0.map eImage))))), (45, .one (.c (.d (.v (.int .i64 ((x0.length : Int))))))), (46, .one (.c (.d (.v (.int .i64 ((o8_1 : Int)))))))], []⟩) ?_ ?_
                  · have h0o15 := h
                    have h := ho
                    clear ho
                    obtain ⟨_, hk, h⟩ := Option.bind_eq_some_iff.1 h
                    have hk := ck_some hk
                    simp only [VW.down, Nat.reduceEqDiff, reduceCtorEq, Nat.reduceAdd, Nat.reduceLeDiff, Nat.reduceLT, EE.down]
                    refine bL (fun j s => ∃ (o15_0 : Nat), (o15_0 ≤ t6.1.length ∧ j = t6.1.length - o15_0) ∧ s = ⟨[(1, .one (.c (.d (.sl (x1.map eS))))), (11, .one (.c (.d (.sl (t6.1.map eImage))))), (12, .one (.c (.d (.sl (t6.2.map eS))))), (13, .one (.c (.d (.v (.int .i64 o8_0))))), (15, .one (.c (.pt 0 0))), (44, .one (.c (.d (.sl (x0.map eImage))))), (45, .one (.c (.d (.v (.int .i64 ((x0.length : Int))))))), (46, .one (.c (.d (.v (.int .i64 ((o8_1 : Int))))))), (58, .one (.c (.d (.sl (t6.1.map eImage))))), (59, .one (.c (.d (.v (.int .i64 ((t6.1.length : Int))))))), (60, .one (.c (.d (.v (.int .i64 ((o15_0 : Int)))))))], [some (.box [.d (.v (.string xo8.Name)), .d (.v (.int .i64 xo8.Size)), .d (.v (.int .i64 xo8.Used))])]⟩ ∧ F5_l15 x1 xo8 (t6.1.drop o15_0) o15_0 = some o15) (t6.1.length - 0) [some 0] ⟨0, ⟨hk.1, rfl⟩, rfl, h⟩ ?_
                    rintro _ _ ⟨o15_0, ⟨hi, rfl⟩, rfl, h⟩
                    simp only [VW.down, Nat.reduceEqDiff, reduceCtorEq, Nat.reduceAdd, Nat.reduceLeDiff, Nat.reduceLT, EE.down]
                    refine condS (fun c16 => ?_) (fun c16 => ?_)
                    · obtain ⟨xo15, hxo15, hd⟩ := countY c16
                      rw [hd, F5_l15] at h
                      simp only [VW.down, Nat.reduceEqDiff, reduceCtorEq, Nat.reduceAdd, Nat.reduceLeDiff, Nat.reduceLT, EE.down]
                      refine t_idxF (enc := eImage) (xs := t6.1) rfl rfl hxo15 rfl ?_
                      simp only [VW.down, Nat.reduceEqDiff, reduceCtorEq, Nat.reduceAdd, Nat.reduceLeDiff, Nat.reduceLT, EE.down]
                      obtain ⟨o17, ho, h⟩ := Option.bind_eq_some_iff.1 h
                      refine cutS (fun s => s = ⟨[(1, .one (.c (.d (.sl (x1.map eS))))), (11, .one (.c (.d (.sl (t6.1.map eImage))))), (12, .one (.c (.d (.sl (t6.2.map eS))))), (13, .one (.c (.d (.v (.int .i64 o8_0))))), (15, .one (.c (.pt 0 0))), (44, .one (.c (.d (.sl (x0.map eImage))))), (45, .one (.c (.d (.v (.int .i64 ((x0.length : Int))))))), (46, .one (.c (.d (.v (.int .i64 ((o8_1 : Int))))))), (58, .one (.c (.d (.sl (t6.1.map eImage))))), (59, .one (.c (.d (.v (.int .i64 ((t6.1.length : Int))))))), (60, .one (.c (.d (.v (.int .i64 ((o15_0 : Int))))))), (89, .one (.c (.d (.v (.bool o17)))))], [some (.box [.d (.v (.string xo8.Name)), .d (.v (.int .i64 xo8.Size)), .d (.v (.int .i64 xo8.Used))])]⟩) ?_ ?_
                      · have h := ho
                        clear ho
                        simp only [VW.down, Nat.reduceEqDiff, reduceCtorEq, Nat.reduceAdd, Nat.reduceLeDiff, Nat.reduceLT, EE.down]
                        obtain ⟨t18, ht18, h⟩ := Option.bind_eq_some_iff.1 h
                        refine callX_n [] (F15_ok ht18) ?_ ?_ ?_ ?_ ?_ ?_
                        · first | rfl | simp [nrmA, nrmC, nrm, A1.ren, C.ren, rn, List.length_set]
                        · simp [liveAll, A1.live, C.live]
                        · rfl
                        · decide
                        · exact trivial
                        simp only [VW.down, Nat.reduceEqDiff, reduceCtorEq, Nat.reduceAdd, Nat.reduceLeDiff, Nat.reduceLT, EE.down]
                        refine guardSB (fun g19 => ?_) (fun g19 => ?_)
                        · have h := (if_pos g19).symm.trans h
                          simp only [VW.down, Nat.reduceEqDiff, reduceCtorEq, Nat.reduceAdd, Nat.reduceLeDiff, Nat.reduceLT, EE.down]
                          refine guardS (fun g20 => ?_) (fun g20 => ?_)
                          · have h := (if_pos g20).symm.trans h
                            simp only [VW.down, Nat.reduceEqDiff, reduceCtorEq, Nat.reduceAdd, Nat.reduceLeDiff, Nat.reduceLT, EE.down]
                            obtain rfl := Option.some.inj h
                            exact eM [some 0] rfl
                          · have h := (if_neg g20).symm.trans h
                            simp only [VW.down, Nat.reduceEqDiff, reduceCtorEq, Nat.reduceAdd, Nat.reduceLeDiff, Nat.reduceLT, EE.down]
                            refine guardS (fun g21 => ?_) (fun g21 => ?_)
                            · have h := (if_pos g21).symm.trans h
                              simp only [VW.down, Nat.reduceEqDiff, reduceCtorEq, Nat.reduceAdd, Nat.reduceLeDiff, Nat.reduceLT, EE.down]
                              obtain rfl := Option.some.inj h
                              exact eM [some 0] rfl
                            · have h := (if_neg g21).symm.trans h
                              simp only [VW.down, Nat.reduceEqDiff, reduceCtorEq, Nat.reduceAdd, Nat.reduceLeDiff, Nat.reduceLT, EE.down]
                              obtain rfl := Option.some.inj h
                              exact eM [some 0] rfl
                        · have h := (if_neg g19).symm.trans h
                          simp only [VW.down, Nat.reduceEqDiff, reduceCtorEq, Nat.reduceAdd, Nat.reduceLeDiff, Nat.reduceLT, EE.down]
                          obtain rfl := Option.some.inj h
                          exact eM [some 0] rfl
                      · rintro _ rfl
                        clear ho
                        simp only [VW.down, Nat.reduceEqDiff, reduceCtorEq, Nat.reduceAdd, Nat.reduceLeDiff, Nat.reduceLT, EE.down]
                        refine condB (fun c22 => ?_) (fun c22 => ?_)
                        · have h := (if_pos c22).symm.trans h
                          simp only [VW.down, Nat.reduceEqDiff, reduceCtorEq, Nat.reduceAdd, Nat.reduceLeDiff, Nat.reduceLT, EE.down]
                          obtain ⟨fh0o15, hfh0o15, rfl⟩ := Option.map_eq_some_iff.1 h
                          have h := hfh0o15.trans h0o15
                          obtain ⟨fh0o10, hfh0o10, rfl⟩ := Option.map_eq_some_iff.1 h
                          have h := hfh0o10.trans h0o10
                          obtain ⟨fh0o8, hfh0o8, rfl⟩ := Option.map_eq_some_iff.1 h
                          have h := hfh0o8.trans h0o8
                          obtain rfl := Option.some.inj h
                          exact eF []
                        · have h := (if_neg c22).symm.trans h
                          simp only [VW.down, Nat.reduceEqDiff, reduceCtorEq, Nat.reduceAdd, Nat.reduceLeDiff, Nat.reduceLT, EE.down]
                          rw [wrapN (by omega)]
                          exact eL' (t6.1.length - (o15_0 + 1)) [some 0] ⟨o15_0 + 1, ⟨by omega, rfl⟩, rfl, h⟩ (by omega)
                    · rw [countN c16, F5_l15] at h
                      simp only [VW.down, Nat.reduceEqDiff, reduceCtorEq, Nat.reduceAdd, Nat.reduceLeDiff, Nat.reduceLT, EE.down]
                      obtain rfl := Option.some.inj h
                      exact eM [] ⟨_, rfl, rfl⟩
                  · rintro _ ⟨po15, rfl, rfl⟩
                    clear ho
                    dsimp only at h
                    simp only [VW.down, Nat.reduceEqDiff, reduceCtorEq, Nat.reduceAdd, Nat.reduceLeDiff, Nat.reduceLT, EE.down]
                    obtain rfl := Option.some.inj h
                    exact eM [] ⟨_, rfl, rfl⟩
              · have h := (if_neg c12).symm.trans h
                simp only [VW.down, Nat.reduceEqDiff, reduceCtorEq, Nat.reduceAdd, Nat.reduceLeDiff, Nat.reduceLT, EE.down]
                obtain ⟨o24, ho, h⟩ := Option.bind_eq_some_iff.1 h
                refine cutS (fun s => s = ⟨[(1, .one (.c (.d (.sl (x1.map eS))))), (11, .one (.c (.d (.sl (t6.1.map eImage))))), (12, .one (.c (.d (.sl (t6.2.map eS))))), (13, .one (.c (.d (.v (.int .i64 o8_0))))), (44, .one (.c (.d (.sl (x0.map eImage))))), (45, .one (.c (.d (.v (.int .i64 ((x0.length : Int))))))), (46, .one (.c (.d (.v (.int .i64 ((o8_1 : Int))))))), (102, .one (.c (.d (.v (.bool o24)))))], []⟩) ?_ ?_
                · have h := ho
                  clear ho
                  simp only [VW.down, Nat.reduceEqDiff, reduceCtorEq, Nat.reduceAdd, Nat.reduceLeDiff, Nat.reduceLT, EE.down]
                  refine guardD (fun g25 => ?_) (fun g25 => ?_)
                  · have h := (if_pos g25).symm.trans h
                    simp only [VW.down, Nat.reduceEqDiff, reduceCtorEq, Nat.reduceAdd, Nat.reduceLeDiff, Nat.reduceLT, EE.down]
                    obtain rfl := Option.some.inj h
                    exact eM [] rfl
                  · have h := (if_neg g25).symm.trans h
                    simp only [VW.down, Nat.reduceEqDiff, reduceCtorEq, Nat.reduceAdd, Nat.reduceLeDiff, Nat.reduceLT, EE.down]
                    obtain ⟨y26, hy26, h⟩ := Option.bind_eq_some_iff.1 h
                    refine t_idxF (enc := eImage) (xs := t6.1) rfl rfl hy26 rfl ?_
                    simp only [VW.down, Nat.reduceEqDiff, reduceCtorEq, Nat.reduceAdd, Nat.reduceLeDiff, Nat.reduceLT, EE.down]
                    obtain rfl := Option.some.inj h
                    exact eM [] rfl
                · rintro _ rfl
                  clear ho
                  simp only [VW.down, Nat.reduceEqDiff, reduceCtorEq, Nat.reduceAdd, Nat.reduceLeDiff, Nat.reduceLT, EE.down]
                  refine condB (fun c27 => ?_) (fun c27 => ?_)
                  · have h := (if_pos c27).symm.trans h
                    simp only [VW.down, Nat.reduceEqDiff, reduceCtorEq, Nat.reduceAdd, Nat.reduceLeDiff, Nat.reduceLT, EE.down]
                    obtain ⟨fh0o10, hfh0o10, rfl⟩ := Option.map_eq_some_iff.1 h
                    have h := hfh0o10.trans h0o10
                    obtain ⟨fh0o8, hfh0o8, rfl⟩ := Option.map_eq_some_iff.1 h
                    have h := hfh0o8.trans h0o8
                    obtain rfl := Option.some.inj h
                    exact eF []
                  · have h := (if_neg c27).symm.trans h
                    simp only [VW.down, Nat.reduceEqDiff, reduceCtorEq, Nat.reduceAdd, Nat.reduceLeDiff, Nat.reduceLT, EE.down]
                    obtain rfl := Option.some.inj h
                    exact eM [] ⟨_, rfl, rfl⟩
            · rintro _ ⟨po10, rfl, rfl⟩
              clear ho
              dsimp only at h
              simp only [VW.down, Nat.reduceEqDiff, reduceCtorEq, Nat.reduceAdd, Nat.reduceLeDiff, Nat.reduceLT, EE.down]
              rw [wrapN (by omega)]
              exact eL' (x0.length - (o8_1 + 1)) [] ⟨o8_1 + 1, po10, ⟨by omega, rfl⟩, rfl, h⟩ (by omega)
          · rw [countN c9, F5_l8] at h
            simp only [VW.down, Nat.reduceEqDiff, reduceCtorEq, Nat.reduceAdd, Nat.reduceLeDiff, Nat.reduceLT, EE.down]
            obtain rfl := Option.some.inj h
            exact eM [] ⟨_, rfl, rfl⟩
        · rintro _ ⟨po8, rfl, rfl⟩
          clear ho
          dsimp only at h
          simp only [VW.down, Nat.reduceEqDiff, reduceCtorEq, Nat.reduceAdd, Nat.reduceLeDiff, Nat.reduceLT, EE.down]
          obtain ⟨t29, ht29, h⟩ := Option.bind_eq_some_iff.1 h
          refine callX_n [] (F8_ok ht29) ?_ ?_ ?_ ?_ ?_ ?_
          · first | rfl | simp [nrmA, nrmC, nrm, A1.ren, C.ren, rn, List.length_set]
          · simp [liveAll, A1.live, C.live]
          · rfl
          · decide
          · exact trivial
          simp only [VW.down, Nat.reduceEqDiff, reduceCtorEq, Nat.reduceAdd, Nat.reduceLeDiff, Nat.reduceLT, EE.down]
          obtain rfl := Option.some.inj h
          exact eF []

/- orchestrator/orchestratorlaw52.ImageFrees -/
def F6_l14 (x1 : (List ByteArray)) : List Image → Nat → Bool → Option (Bool)
  | [], o14_1, o14_0 => some o14_0
  | xo14 :: xs, o14_1, o14_0 => (((if o14_0 = true then (F15 x1 xo14.Name).bind fun t18 => some t18 else some false)).bind fun o16 => F6_l14 x1 xs (o14_1 + 1) o16)
def F6_l25 (t11 : (List Image) × (List ByteArray)) : List Image → Nat → Int → Option (Int)
  | [], o25_1, o25_0 => some o25_0
  | xo25 :: xs, o25_1, o25_0 => (((rdI t11.2 ((IntKind.i64.wrap (((t11.2.length : Int)) - 1)))).bind fun y28 => (if xo25.Name = y28 then some xo25.Size else some o25_0)).bind fun o27 => F6_l25 t11 xs (o25_1 + 1) o27)
def F6_l31 (t12 : Int) (x1 : (List ByteArray)) (x2 : Int) (x4 : Int) : List Image → Nat → Option ((Bool) ⊕ (Unit))
  | [], o31_0 => some (Sum.inr (()))
  | xo31 :: xs, o31_0 => (((F15 x1 xo31.Name).bind fun t34 => (if (nb t34) = true then some (decide ((IntKind.i64.wrap (x4 * x2)) < (IntKind.i64.wrap (100 * t12)))) else some false)).bind fun o33 => (if o33 = true then (some false).map Sum.inl else F6_l31 t12 x1 x2 x4 xs (o31_0 + 1)))
def F6 (x0 : (List Image)) (x1 : (List ByteArray)) (x2 : Int) (x3 : Int) (x4 : Int) : Option (Bool) := (((F7 x0).bind fun t2 => (if (nb t2) = true then some true else (if 100 < (x1.length : Int) then some true else (if x2 < 0 then some true else (if 1000000000000000 < x2 then some true else (if x4 < 0 then some true else (if x3 < x4 then some true else some (decide (100 < x3))))))))).bind fun o1 => (if o1 = true then (F8).bind fun t10 => some t10 else (F12 x0 x1 x2 x3 x4).bind fun t11 => (F16 t11.1).bind fun t12 => (if (t11.2.length : Int) = 0 then (((ck (0 ≤ t11.1.length ∧ t11.1.length ≤ 4294967290)).bind fun u19 => F6_l14 x1 t11.1 0 true).bind fun o14 => (((if (IntKind.i64.wrap (100 * t12)) ≤ (IntKind.i64.wrap (x3 * x2)) then (F8).bind fun t22 => some t22 else (if o14 = true then (F8).bind fun t24 => some t24 else some false))).bind fun o20 => some o20)) else (((ck (0 ≤ x0.length ∧ x0.length ≤ 4294967290)).bind fun u30 => F6_l25 t11 x0 0 0).bind fun o25 => (((ck (0 ≤ t11.1.length ∧ t11.1.length ≤ 4294967290)).bind fun u37 => F6_l31 t12 x1 x2 x4 t11.1 0).bind fun o31 => match o31 with | Sum.inl f => some f | Sum.inr po31 => (((if (IntKind.i64.wrap (x4 * x2)) < (IntKind.i64.wrap (100 * ((IntKind.i64.wrap (t12 + o25))))) then (F8).bind fun t40 => some t40 else some false)).bind fun o38 => some o38))))))
def a6 : AFn := ⟨141, [(.tmp 10)],
 (.seq (.reg [⟨(some 10), none, .mv (kB false), [], true⟩])
 (.seq (.seq (.sem (.reg [⟨(some 22), none, .mv (.t 0), [], false⟩,
   ⟨(some 23), none, .call 7 [(.t 22)], [], false⟩,
   ⟨(some 24), none, .not (.t 23), [], false⟩,
   ⟨(some 25), none, .mv (.t 24), [], false⟩,
   ⟨(some 26), (some (25, false)), .mv (.t 1), [], false⟩,
   ⟨(some 27), (some (25, false)), .len (.t 26), [], false⟩,
   ⟨(some 28), (some (25, false)), .bin .gtr (.t 27) (kI 100), [], false⟩,
   ⟨(some 29), none, .pick (.t 25) (kB true) (.t 28), [], false⟩,
   ⟨(some 30), none, .mv (.t 29), [], false⟩,
   ⟨(some 31), (some (30, false)), .mv (.t 2), [], false⟩,
   ⟨(some 32), (some (30, false)), .bin .lss (.t 31) (kI 0), [], false⟩,
   ⟨(some 33), none, .pick (.t 30) (kB true) (.t 32), [], false⟩,
   ⟨(some 34), none, .mv (.t 33), [], false⟩,
   ⟨(some 35), (some (34, false)), .mv (.t 2), [], false⟩,
   ⟨(some 36), (some (34, false)), .bin .gtr (.t 35) (kI 1000000000000000), [], false⟩,
   ⟨(some 37), none, .pick (.t 34) (kB true) (.t 36), [], false⟩,
   ⟨(some 38), none, .mv (.t 37), [], false⟩,
   ⟨(some 39), (some (38, false)), .mv (.t 4), [], false⟩,
   ⟨(some 40), (some (38, false)), .bin .lss (.t 39) (kI 0), [], false⟩,
   ⟨(some 41), none, .pick (.t 38) (kB true) (.t 40), [], false⟩,
   ⟨(some 42), none, .mv (.t 41), [], false⟩,
   ⟨(some 43), (some (42, false)), .mv (.t 4), [], false⟩,
   ⟨(some 44), (some (42, false)), .mv (.t 3), [], false⟩,
   ⟨(some 45), (some (42, false)), .bin .gtr (.t 43) (.t 44), [], false⟩,
   ⟨(some 46), none, .pick (.t 42) (kB true) (.t 45), [], false⟩,
   ⟨(some 47), none, .mv (.t 46), [], false⟩,
   ⟨(some 48), (some (47, false)), .mv (.t 3), [], false⟩,
   ⟨(some 49), (some (47, false)), .bin .gtr (.t 48) (kI 100), [], false⟩,
   ⟨(some 50), none, .pick (.t 47) (kB true) (.t 49), [], false⟩]))
 (.cond (.t 50)
 (.seq (.reg [⟨(some 51), none, .call 8 [], [], false⟩,
   ⟨(some 10), none, .mv (.t 51), [], false⟩])
 .ret)
 .skip))
 (.seq (.reg [⟨(some 53), none, .mv (.t 0), [], false⟩,
   ⟨(some 54), none, .mv (.t 1), [], false⟩,
   ⟨(some 55), none, .mv (.t 2), [], false⟩,
   ⟨(some 56), none, .mv (.t 3), [], false⟩,
   ⟨(some 57), none, .mv (.t 4), [], false⟩,
   ⟨(some 58), none, .call 12 [(.t 53), (.t 54), (.t 55), (.t 56), (.t 57)], [], false⟩,
   ⟨(some 52), none, .mv (.t 58), [], false⟩,
   ⟨(some 59), none, .ext (.t 52) 0, [], false⟩,
   ⟨(some 60), none, .ext (.t 52) 1, [], false⟩,
   ⟨(some 11), none, .mv (.t 59), [], false⟩,
   ⟨(some 12), none, .mv (.t 60), [], false⟩])
 (.seq (.reg [⟨(some 61), none, .mv (.t 11), [], false⟩,
   ⟨(some 62), none, .call 16 [(.t 61)], [], false⟩,
   ⟨(some 13), none, .mv (.t 62), [], false⟩])
 (.seq (.seq (.reg [⟨(some 63), none, .mv (.t 12), [], false⟩,
   ⟨(some 64), none, .len (.t 63), [], false⟩,
   ⟨(some 65), none, .bin .eql (.t 64) (kI 0), [], false⟩])
 (.cond (.t 65)
 (.seq (.reg [⟨(some 14), none, .mv (kB true), [], true⟩])
 (.seq (.seq (.reg [⟨(some 66), none, .mv (.t 11), [], false⟩,
   ⟨(some 67), none, .len (.t 66), [], false⟩,
   ⟨(some 68), none, .mv (kI 0), [], false⟩])
 (.sem (.block 0 (.loop (.seq (.reg [⟨(some 69), none, .bin .lss (.t 68) (.t 67), [], true⟩])
 (.seq (.cond (.t 69)
 .skip
 (.exit 0))
 (.seq (.sem (.block 1 (.seq (.reg [⟨(some 70), none, .indexA 3 (.t 66) (.t 68), [], false⟩,
   ⟨(some 71), none, .load (some 3) (.t 70), [], false⟩,
   ⟨(some 16), none, .zbox [.d (.v (.string ⟨#[]⟩)), .d (.v (.int .i64 0)), .d (.v (.int .i64 0))], [], false⟩,
   ⟨none, none, .store 3 (.t 16) (.t 71), [], false⟩])
 (.reg [⟨(some 72), none, .mv (.t 14), [], false⟩,
   ⟨(some 73), none, .mv (.t 72), [], false⟩,
   ⟨(some 74), (some (73, true)), .mv (.t 1), [], false⟩,
   ⟨(some 75), (some (73, true)), .fieldA 0 (.t 16), [], false⟩,
   ⟨(some 76), (some (73, true)), .load none (.t 75), [], false⟩,
   ⟨(some 77), (some (73, true)), .call 15 [(.t 74), (.t 76)], [], false⟩,
   ⟨(some 78), none, .pick (.t 73) (.t 77) (kB false), [], false⟩,
   ⟨(some 14), none, .mv (.t 78), [], false⟩]))))
 (.reg [⟨(some 79), none, .bin .add (.t 68) (kI 1), [], false⟩,
   ⟨(some 68), none, .mv (.t 79), [], false⟩]))))))))
 (.seq (.sem (.reg [⟨(some 80), none, .mv (.t 13), [], false⟩,
   ⟨(some 81), none, .bin .mul (kI 100) (.t 80), [], false⟩,
   ⟨(some 82), none, .mv (.t 3), [], false⟩,
   ⟨(some 83), none, .mv (.t 2), [], false⟩,
   ⟨(some 84), none, .bin .mul (.t 82) (.t 83), [], false⟩,
   ⟨(some 85), none, .bin .leq (.t 81) (.t 84), [], false⟩,
   ⟨(some 86), none, .mv (.t 85), [], false⟩,
   ⟨(some 87), (some (86, false)), .mv (.t 14), [], false⟩,
   ⟨(some 88), none, .pick (.t 86) (kB true) (.t 87), [], false⟩,
   ⟨(some 89), none, .mv (.t 88), [], false⟩,
   ⟨(some 90), (some (89, true)), .call 8 [], [], false⟩,
   ⟨(some 91), none, .pick (.t 89) (.t 90) (kB false), [], false⟩,
   ⟨(some 10), none, .mv (.t 91), [], false⟩]))
 .ret)))
 .skip))
 (.seq (.reg [⟨(some 17), none, .mv (kI 0), [], true⟩])
 (.seq (.seq (.reg [⟨(some 92), none, .mv (.t 0), [], false⟩,
   ⟨(some 93), none, .len (.t 92), [], false⟩,
   ⟨(some 94), none, .mv (kI 0), [], false⟩])
 (.sem (.block 2 (.loop (.seq (.reg [⟨(some 95), none, .bin .lss (.t 94) (.t 93), [], true⟩])
 (.seq (.cond (.t 95)
 .skip
 (.exit 2))
 (.seq (.sem (.block 3 (.seq (.reg [⟨(some 96), none, .indexA 3 (.t 92) (.t 94), [], false⟩,
   ⟨(some 97), none, .load (some 3) (.t 96), [], false⟩,
   ⟨(some 19), none, .zbox [.d (.v (.string ⟨#[]⟩)), .d (.v (.int .i64 0)), .d (.v (.int .i64 0))], [], false⟩,
   ⟨none, none, .store 3 (.t 19) (.t 97), [], false⟩])
 (.seq (.regd [⟨(some 98), none, .fieldA 0 (.t 19), [], false⟩,
   ⟨(some 99), none, .load none (.t 98), [0], false⟩,
   ⟨(some 100), none, .mv (.t 12), [], false⟩,
   ⟨(some 101), none, .mv (.t 12), [], false⟩,
   ⟨(some 102), none, .len (.t 101), [3], false⟩,
   ⟨(some 103), none, .bin .sub (.t 102) (kI 1), [3, 4], false⟩,
   ⟨(some 104), none, .indexA 1 (.t 100) (.t 103), [2, 3, 4, 5], false⟩,
   ⟨(some 105), none, .load none (.t 104), [2, 3, 4, 5, 6], false⟩,
   ⟨(some 106), none, .bin .eql (.t 99) (.t 105), [0, 1, 2, 3, 4, 5, 6, 7], true⟩])
 (.cond (.t 106)
 (.reg [⟨(some 107), none, .fieldA 1 (.t 19), [], false⟩,
   ⟨(some 108), none, .load none (.t 107), [], false⟩,
   ⟨(some 17), none, .mv (.t 108), [], false⟩])
 .skip)))))
 (.reg [⟨(some 109), none, .bin .add (.t 94) (kI 1), [], false⟩,
   ⟨(some 94), none, .mv (.t 109), [], false⟩]))))))))
 (.seq (.seq (.reg [⟨(some 110), none, .mv (.t 11), [], false⟩,
   ⟨(some 111), none, .len (.t 110), [], false⟩,
   ⟨(some 112), none, .mv (kI 0), [], false⟩])
 (.sem (.block 4 (.loop (.seq (.reg [⟨(some 113), none, .bin .lss (.t 112) (.t 111), [], true⟩])
 (.seq (.cond (.t 113)
 .skip
 (.exit 4))
 (.seq (.block 5 (.seq (.reg [⟨(some 114), none, .indexA 3 (.t 110) (.t 112), [], false⟩,
   ⟨(some 115), none, .load (some 3) (.t 114), [], false⟩,
   ⟨(some 21), none, .zbox [.d (.v (.string ⟨#[]⟩)), .d (.v (.int .i64 0)), .d (.v (.int .i64 0))], [], false⟩,
   ⟨none, none, .store 3 (.t 21) (.t 115), [], false⟩])
 (.seq (.sem (.reg [⟨(some 116), none, .mv (.t 1), [], false⟩,
   ⟨(some 117), none, .fieldA 0 (.t 21), [], false⟩,
   ⟨(some 118), none, .load none (.t 117), [], false⟩,
   ⟨(some 119), none, .call 15 [(.t 116), (.t 118)], [], false⟩,
   ⟨(some 120), none, .not (.t 119), [], false⟩,
   ⟨(some 121), none, .mv (.t 120), [], false⟩,
   ⟨(some 122), (some (121, true)), .mv (.t 13), [], false⟩,
   ⟨(some 123), (some (121, true)), .bin .mul (kI 100) (.t 122), [], false⟩,
   ⟨(some 124), (some (121, true)), .mv (.t 4), [], false⟩,
   ⟨(some 125), (some (121, true)), .mv (.t 2), [], false⟩,
   ⟨(some 126), (some (121, true)), .bin .mul (.t 124) (.t 125), [], false⟩,
   ⟨(some 127), (some (121, true)), .bin .gtr (.t 123) (.t 126), [], false⟩,
   ⟨(some 128), none, .pick (.t 121) (.t 127) (kB false), [], false⟩]))
 (.cond (.t 128)
 (.seq (.reg [⟨(some 10), none, .mv (kB false), [], true⟩])
 .ret)
 .skip))))
 (.reg [⟨(some 129), none, .bin .add (.t 112) (kI 1), [], false⟩,
   ⟨(some 112), none, .mv (.t 129), [], false⟩]))))))))
 (.seq (.sem (.reg [⟨(some 130), none, .mv (.t 13), [], false⟩,
   ⟨(some 131), none, .mv (.t 17), [], false⟩,
   ⟨(some 132), none, .bin .add (.t 130) (.t 131), [], false⟩,
   ⟨(some 133), none, .bin .mul (kI 100) (.t 132), [], false⟩,
   ⟨(some 134), none, .mv (.t 4), [], false⟩,
   ⟨(some 135), none, .mv (.t 2), [], false⟩,
   ⟨(some 136), none, .bin .mul (.t 134) (.t 135), [], false⟩,
   ⟨(some 137), none, .bin .gtr (.t 133) (.t 136), [], false⟩,
   ⟨(some 138), none, .mv (.t 137), [], false⟩,
   ⟨(some 139), (some (138, true)), .call 8 [], [], false⟩,
   ⟨(some 140), none, .pick (.t 138) (.t 139) (kB false), [], false⟩,
   ⟨(some 10), none, .mv (.t 140), [], false⟩]))
 .ret)))))))))⟩
theorem a6_ok : afn Try.prog 6 = some a6.er := by kernel_rfl
theorem F6_ok {x0 : (List Image)} {x1 : (List ByteArray)} {x2 : Int} {x3 : Int} {x4 : Int} {r : Bool} (h : F6 x0 x1 x2 x3 x4 = some r) : CallD Try.prog 6 [.c (.d (.sl (x0.map eImage))), .c (.d (.sl (x1.map eS))), .c (.d (.v (.int .i64 x2))), .c (.d (.v (.int .i64 x3))), .c (.d (.v (.int .i64 x4)))] [] (tupV [.c (.d (.v (.bool r)))]) [] := by
  refine callS a6_ok (by simp [a6]) ?_
  rw [F6] at h
  simp only [a6, VW.down, Nat.reduceEqDiff, reduceCtorEq, Nat.reduceAdd, Nat.reduceLeDiff, Nat.reduceLT, EE.down]
  obtain ⟨o1, ho, h⟩ := Option.bind_eq_some_iff.1 h
  refine cutS (fun s => s = ⟨[(0, .one (.c (.d (.sl (x0.map eImage))))), (1, .one (.c (.d (.sl (x1.map eS))))), (2, .one (.c (.d (.v (.int .i64 x2))))), (3, .one (.c (.d (.v (.int .i64 x3))))), (4, .one (.c (.d (.v (.int .i64 x4))))), (50, .one (.c (.d (.v (.bool o1)))))], []⟩) ?_ ?_
  · have h := ho
    clear ho
    simp only [VW.down, Nat.reduceEqDiff, reduceCtorEq, Nat.reduceAdd, Nat.reduceLeDiff, Nat.reduceLT, EE.down]
    obtain ⟨t2, ht2, h⟩ := Option.bind_eq_some_iff.1 h
    refine callX_n [] (F7_ok ht2) ?_ ?_ ?_ ?_ ?_ ?_
    · first | rfl | simp [nrmA, nrmC, nrm, A1.ren, C.ren, rn, List.length_set]
    · simp [liveAll, A1.live, C.live]
    · rfl
    · decide
    · exact trivial
    simp only [VW.down, Nat.reduceEqDiff, reduceCtorEq, Nat.reduceAdd, Nat.reduceLeDiff, Nat.reduceLT, EE.down]
    refine guardSB (fun g3 => ?_) (fun g3 => ?_)
    · have h := (if_pos g3).symm.trans h
      simp only [VW.down, Nat.reduceEqDiff, reduceCtorEq, Nat.reduceAdd, Nat.reduceLeDiff, Nat.reduceLT, EE.down]
      obtain rfl := Option.some.inj h
      exact eM [] rfl
    · have h := (if_neg g3).symm.trans h
      simp only [VW.down, Nat.reduceEqDiff, reduceCtorEq, Nat.reduceAdd, Nat.reduceLeDiff, Nat.reduceLT, EE.down]
      refine guardS (fun g4 => ?_) (fun g4 => ?_)
      · have h := (if_pos g4).symm.trans h
        simp only [VW.down, Nat.reduceEqDiff, reduceCtorEq, Nat.reduceAdd, Nat.reduceLeDiff, Nat.reduceLT, EE.down]
        obtain rfl := Option.some.inj h
        exact eM [] rfl
      · have h := (if_neg g4).symm.trans h
        simp only [VW.down, Nat.reduceEqDiff, reduceCtorEq, Nat.reduceAdd, Nat.reduceLeDiff, Nat.reduceLT, EE.down]
        refine guardS (fun g5 => ?_) (fun g5 => ?_)
        · have h := (if_pos g5).symm.trans h
          simp only [VW.down, Nat.reduceEqDiff, reduceCtorEq, Nat.reduceAdd, Nat.reduceLeDiff, Nat.reduceLT, EE.down]
          obtain rfl := Option.some.inj h
          exact eM [] rfl
        · have h := (if_neg g5).symm.trans h
          simp only [VW.down, Nat.reduceEqDiff, reduceCtorEq, Nat.reduceAdd, Nat.reduceLeDiff, Nat.reduceLT, EE.down]
          refine guardS (fun g6 => ?_) (fun g6 => ?_)
          · have h := (if_pos g6).symm.trans h
            simp only [VW.down, Nat.reduceEqDiff, reduceCtorEq, Nat.reduceAdd, Nat.reduceLeDiff, Nat.reduceLT, EE.down]
            obtain rfl := Option.some.inj h
            exact eM [] rfl
          · have h := (if_neg g6).symm.trans h
            simp only [VW.down, Nat.reduceEqDiff, reduceCtorEq, Nat.reduceAdd, Nat.reduceLeDiff, Nat.reduceLT, EE.down]
            refine guardS (fun g7 => ?_) (fun g7 => ?_)
            · have h := (if_pos g7).symm.trans h
              simp only [VW.down, Nat.reduceEqDiff, reduceCtorEq, Nat.reduceAdd, Nat.reduceLeDiff, Nat.reduceLT, EE.down]
              obtain rfl := Option.some.inj h
              exact eM [] rfl
            · have h := (if_neg g7).symm.trans h
              simp only [VW.down, Nat.reduceEqDiff, reduceCtorEq, Nat.reduceAdd, Nat.reduceLeDiff, Nat.reduceLT, EE.down]
              refine guardS (fun g8 => ?_) (fun g8 => ?_)
              · have h := (if_pos g8).symm.trans h
                simp only [VW.down, Nat.reduceEqDiff, reduceCtorEq, Nat.reduceAdd, Nat.reduceLeDiff, Nat.reduceLT, EE.down]
                obtain rfl := Option.some.inj h
                exact eM [] rfl
              · have h := (if_neg g8).symm.trans h
                simp only [VW.down, Nat.reduceEqDiff, reduceCtorEq, Nat.reduceAdd, Nat.reduceLeDiff, Nat.reduceLT, EE.down]
                obtain rfl := Option.some.inj h
                exact eM [] rfl
  · rintro _ rfl
    clear ho
    simp only [VW.down, Nat.reduceEqDiff, reduceCtorEq, Nat.reduceAdd, Nat.reduceLeDiff, Nat.reduceLT, EE.down]
    refine condB (fun c9 => ?_) (fun c9 => ?_)
    · have h := (if_pos c9).symm.trans h
      simp only [VW.down, Nat.reduceEqDiff, reduceCtorEq, Nat.reduceAdd, Nat.reduceLeDiff, Nat.reduceLT, EE.down]
      obtain ⟨t10, ht10, h⟩ := Option.bind_eq_some_iff.1 h
      refine callX_n [] (F8_ok ht10) ?_ ?_ ?_ ?_ ?_ ?_
      · first | rfl | simp [nrmA, nrmC, nrm, A1.ren, C.ren, rn, List.length_set]
      · simp [liveAll, A1.live, C.live]
      · rfl
      · decide
      · exact trivial
      simp only [VW.down, Nat.reduceEqDiff, reduceCtorEq, Nat.reduceAdd, Nat.reduceLeDiff, Nat.reduceLT, EE.down]
      obtain rfl := Option.some.inj h
      exact eF []
    · have h := (if_neg c9).symm.trans h
      simp only [VW.down, Nat.reduceEqDiff, reduceCtorEq, Nat.reduceAdd, Nat.reduceLeDiff, Nat.reduceLT, EE.down]
      obtain ⟨t11, ht11, h⟩ := Option.bind_eq_some_iff.1 h
      refine callX_n [] (F12_ok ht11) ?_ ?_ ?_ ?_ ?_ ?_
      · first | rfl | simp [nrmA, nrmC, nrm, A1.ren, C.ren, rn, List.length_set]
      · simp [liveAll, A1.live, C.live]
      · rfl
      · decide
      · exact trivial
      simp only [VW.down, Nat.reduceEqDiff, reduceCtorEq, Nat.reduceAdd, Nat.reduceLeDiff, Nat.reduceLT, EE.down]
      obtain ⟨t12, ht12, h⟩ := Option.bind_eq_some_iff.1 h
      refine callX_bor (F16_ok ht12) (by simp only [borAs, bors, hp, List.getElem?_cons_zero, List.getElem?_cons_succ, Option.join_some, List.drop_zero, bor_full', true_and, Nat.zero_add, List.length_map, Nat.le_refl, nrm, List.length_cons, List.length_nil, Nat.reduceAdd, Nat.reduceLeDiff, List.take_succ_cons, List.take_zero, List.take_nil, List.map_cons, List.map_nil, List.length_set, EE.down]) rfl ?_
      simp only [VW.down, Nat.reduceEqDiff, reduceCtorEq, Nat.reduceAdd, Nat.reduceLeDiff, Nat.reduceLT, EE.down]
      refine condS (fun c13 => ?_) (fun c13 => ?_)
      · have h := (if_pos c13).symm.trans h
        simp only [VW.down, Nat.reduceEqDiff, reduceCtorEq, Nat.reduceAdd, Nat.reduceLeDiff, Nat.reduceLT, EE.down]
        obtain ⟨o14, ho, h⟩ := Option.bind_eq_some_iff.1 h
        refine cutS (fun s => s = ⟨[(2, .one (.c (.d (.v (.int .i64 x2))))), (3, .one (.c (.d (.v (.int .i64 x3))))), (13, .one (.c (.d (.v (.int .i64 t12))))), (14, .one (.c (.d (.v (.bool o14)))))], []⟩) ?_ ?_
        · have h := ho
          clear ho
          obtain ⟨_, hk, h⟩ := Option.bind_eq_some_iff.1 h
          have hk := ck_some hk
          simp only [VW.down, Nat.reduceEqDiff, reduceCtorEq, Nat.reduceAdd, Nat.reduceLeDiff, Nat.reduceLT, EE.down]
          refine bL (fun j s => ∃ (o14_1 : Nat) (o14_0 : Bool), (o14_1 ≤ t11.1.length ∧ j = t11.1.length - o14_1) ∧ s = ⟨[(1, .one (.c (.d (.sl (x1.map eS))))), (2, .one (.c (.d (.v (.int .i64 x2))))), (3, .one (.c (.d (.v (.int .i64 x3))))), (13, .one (.c (.d (.v (.int .i64 t12))))), (14, .one (.c (.d (.v (.bool o14_0))))), (66, .one (.c (.d (.sl (t11.1.map eImage))))), (67, .one (.c (.d (.v (.int .i64 ((t11.1.length : Int))))))), (68, .one (.c (.d (.v (.int .i64 ((o14_1 : Int)))))))], []⟩ ∧ F6_l14 x1 (t11.1.drop o14_1) o14_1 o14_0 = some o14) (t11.1.length - 0) [] ⟨0, true, ⟨hk.1, rfl⟩, rfl, h⟩ ?_
          rintro _ _ ⟨o14_1, o14_0, ⟨hi, rfl⟩, rfl, h⟩
          simp only [VW.down, Nat.reduceEqDiff, reduceCtorEq, Nat.reduceAdd, Nat.reduceLeDiff, Nat.reduceLT, EE.down]
          refine condS (fun c15 => ?_) (fun c15 => ?_)
          · obtain ⟨xo14, hxo14, hd⟩ := countY c15
            rw [hd, F6_l14] at h
            simp only [VW.down, Nat.reduceEqDiff, reduceCtorEq, Nat.reduceAdd, Nat.reduceLeDiff, Nat.reduceLT, EE.down]
            obtain ⟨o16, ho, h⟩ := Option.bind_eq_some_iff.1 h
            refine cutS (fun s => s = ⟨[(1, .one (.c (.d (.sl (x1.map eS))))), (2, .one (.c (.d (.v (.int .i64 x2))))), (3, .one (.c (.d (.v (.int .i64 x3))))), (13, .one (.c (.d (.v (.int .i64 t12))))), (14, .one (.c (.d (.v (.bool o16))))), (66, .one (.c (.d (.sl (t11.1.map eImage))))), (67, .one (.c (.d (.v (.int .i64 ((t11.1.length : Int))))))), (68, .one (.c (.d (.v (.int .i64 ((o14_1 : Int)))))))], []⟩) ?_ ?_
            · have h := ho
              clear ho
              simp only [VW.down, Nat.reduceEqDiff, reduceCtorEq, Nat.reduceAdd, Nat.reduceLeDiff, Nat.reduceLT, EE.down]
              refine t_idxF (enc := eImage) (xs := t11.1) rfl rfl hxo14 rfl ?_
              simp only [VW.down, Nat.reduceEqDiff, reduceCtorEq, Nat.reduceAdd, Nat.reduceLeDiff, Nat.reduceLT, EE.down]
              refine guardSB (fun g17 => ?_) (fun g17 => ?_)
              · have h := (if_pos g17).symm.trans h
                simp only [VW.down, Nat.reduceEqDiff, reduceCtorEq, Nat.reduceAdd, Nat.reduceLeDiff, Nat.reduceLT, EE.down]
                obtain ⟨t18, ht18, h⟩ := Option.bind_eq_some_iff.1 h
                refine callX_n [] (F15_ok ht18) ?_ ?_ ?_ ?_ ?_ ?_
                · first | rfl | simp [nrmA, nrmC, nrm, A1.ren, C.ren, rn, List.length_set]
                · simp [liveAll, A1.live, C.live]
                · rfl
                · decide
                · exact trivial
                simp only [VW.down, Nat.reduceEqDiff, reduceCtorEq, Nat.reduceAdd, Nat.reduceLeDiff, Nat.reduceLT, EE.down]
                obtain rfl := Option.some.inj h
                exact eM [] rfl
              · have h := (if_neg g17).symm.trans h
                simp only [VW.down, Nat.reduceEqDiff, reduceCtorEq, Nat.reduceAdd, Nat.reduceLeDiff, Nat.reduceLT, EE.down]
                obtain rfl := Option.some.inj h
                exact eM [] rfl
            · rintro _ rfl
              clear ho
              simp only [VW.down, Nat.reduceEqDiff, reduceCtorEq, Nat.reduceAdd, Nat.reduceLeDiff, Nat.reduceLT, EE.down]
              rw [wrapN (by omega)]
              exact eL' (t11.1.length - (o14_1 + 1)) [] ⟨o14_1 + 1, o16, ⟨by omega, rfl⟩, rfl, h⟩ (by omega)
          · rw [countN c15, F6_l14] at h
            simp only [VW.down, Nat.reduceEqDiff, reduceCtorEq, Nat.reduceAdd, Nat.reduceLeDiff, Nat.reduceLT, EE.down]
            obtain rfl := Option.some.inj h
            exact eM [] rfl
        · rintro _ rfl
          clear ho
          simp only [VW.down, Nat.reduceEqDiff, reduceCtorEq, Nat.reduceAdd, Nat.reduceLeDiff, Nat.reduceLT, EE.down]
          obtain ⟨o20, ho, h⟩ := Option.bind_eq_some_iff.1 h
          refine cutS (fun s => s = ⟨[(10, .one (.c (.d (.v (.bool o20)))))], []⟩) ?_ ?_
          · have h := ho
            clear ho
            simp only [VW.down, Nat.reduceEqDiff, reduceCtorEq, Nat.reduceAdd, Nat.reduceLeDiff, Nat.reduceLT, EE.down]
            refine guardS (fun g21 => ?_) (fun g21 => ?_)
            · have h := (if_pos g21).symm.trans h
              simp only [VW.down, Nat.reduceEqDiff, reduceCtorEq, Nat.reduceAdd, Nat.reduceLeDiff, Nat.reduceLT, EE.down]
              obtain ⟨t22, ht22, h⟩ := Option.bind_eq_some_iff.1 h
              refine callX_n [] (F8_ok ht22) ?_ ?_ ?_ ?_ ?_ ?_
              · first | rfl | simp [nrmA, nrmC, nrm, A1.ren, C.ren, rn, List.length_set]
              · simp [liveAll, A1.live, C.live]
              · rfl
              · decide
              · exact trivial
              simp only [VW.down, Nat.reduceEqDiff, reduceCtorEq, Nat.reduceAdd, Nat.reduceLeDiff, Nat.reduceLT, EE.down]
              obtain rfl := Option.some.inj h
              exact eM [] rfl
            · have h := (if_neg g21).symm.trans h
              simp only [VW.down, Nat.reduceEqDiff, reduceCtorEq, Nat.reduceAdd, Nat.reduceLeDiff, Nat.reduceLT, EE.down]
              refine guardSB (fun g23 => ?_) (fun g23 => ?_)
              · have h := (if_pos g23).symm.trans h
                simp only [VW.down, Nat.reduceEqDiff, reduceCtorEq, Nat.reduceAdd, Nat.reduceLeDiff, Nat.reduceLT, EE.down]
                obtain ⟨t24, ht24, h⟩ := Option.bind_eq_some_iff.1 h
                refine callX_n [] (F8_ok ht24) ?_ ?_ ?_ ?_ ?_ ?_
                · first | rfl | simp [nrmA, nrmC, nrm, A1.ren, C.ren, rn, List.length_set]
                · simp [liveAll, A1.live, C.live]
                · rfl
                · decide
                · exact trivial
                simp only [VW.down, Nat.reduceEqDiff, reduceCtorEq, Nat.reduceAdd, Nat.reduceLeDiff, Nat.reduceLT, EE.down]
                obtain rfl := Option.some.inj h
                exact eM [] rfl
              · have h := (if_neg g23).symm.trans h
                simp only [VW.down, Nat.reduceEqDiff, reduceCtorEq, Nat.reduceAdd, Nat.reduceLeDiff, Nat.reduceLT, EE.down]
                obtain rfl := Option.some.inj h
                exact eM [] rfl
          · rintro _ rfl
            clear ho
            simp only [VW.down, Nat.reduceEqDiff, reduceCtorEq, Nat.reduceAdd, Nat.reduceLeDiff, Nat.reduceLT, EE.down]
            obtain rfl := Option.some.inj h
            exact eF []
      · have h := (if_neg c13).symm.trans h
        simp only [VW.down, Nat.reduceEqDiff, reduceCtorEq, Nat.reduceAdd, Nat.reduceLeDiff, Nat.reduceLT, EE.down]
        obtain ⟨o25, ho, h⟩ := Option.bind_eq_some_iff.1 h
        refine cutS (fun s => s = ⟨[(1, .one (.c (.d (.sl (x1.map eS))))), (2, .one (.c (.d (.v (.int .i64 x2))))), (4, .one (.c (.d (.v (.int .i64 x4))))), (11, .one (.c (.d (.sl (t11.1.map eImage))))), (13, .one (.c (.d (.v (.int .i64 t12))))), (17, .one (.c (.d (.v (.int .i64 o25)))))], []⟩) ?_ ?_
        · have h := ho
          clear ho
          obtain ⟨_, hk, h⟩ := Option.bind_eq_some_iff.1 h
          have hk := ck_some hk
          simp only [VW.down, Nat.reduceEqDiff, reduceCtorEq, Nat.reduceAdd, Nat.reduceLeDiff, Nat.reduceLT, EE.down]
          refine bL (fun j s => ∃ (o25_1 : Nat) (o25_0 : Int), (o25_1 ≤ x0.length ∧ j = x0.length - o25_1) ∧ s = ⟨[(1, .one (.c (.d (.sl (x1.map eS))))), (2, .one (.c (.d (.v (.int .i64 x2))))), (4, .one (.c (.d (.v (.int .i64 x4))))), (11, .one (.c (.d (.sl (t11.1.map eImage))))), (12, .one (.c (.d (.sl (t11.2.map eS))))), (13, .one (.c (.d (.v (.int .i64 t12))))), (17, .one (.c (.d (.v (.int .i64 o25_0))))), (92, .one (.c (.d (.sl (x0.map eImage))))), (93, .one (.c (.d (.v (.int .i64 ((x0.length : Int))))))), (94, .one (.c (.d (.v (.int .i64 ((o25_1 : Int)))))))], []⟩ ∧ F6_l25 t11 (x0.drop o25_1) o25_1 o25_0 = some o25) (x0.length - 0) [] ⟨0, 0, ⟨hk.1, rfl⟩, rfl, h⟩ ?_
          rintro _ _ ⟨o25_1, o25_0, ⟨hi, rfl⟩, rfl, h⟩
          simp only [VW.down, Nat.reduceEqDiff, reduceCtorEq, Nat.reduceAdd, Nat.reduceLeDiff, Nat.reduceLT, EE.down]
          refine condS (fun c26 => ?_) (fun c26 => ?_)
          · obtain ⟨xo25, hxo25, hd⟩ := countY c26
            rw [hd, F6_l25] at h
            simp only [VW.down, Nat.reduceEqDiff, reduceCtorEq, Nat.reduceAdd, Nat.reduceLeDiff, Nat.reduceLT, EE.down]
            obtain ⟨o27, ho, h⟩ := Option.bind_eq_some_iff.1 h
            refine cutS (fun s => s = ⟨[(1, .one (.c (.d (.sl (x1.map eS))))), (2, .one (.c (.d (.v (.int .i64 x2))))), (4, .one (.c (.d (.v (.int .i64 x4))))), (11, .one (.c (.d (.sl (t11.1.map eImage))))), (12, .one (.c (.d (.sl (t11.2.map eS))))), (13, .one (.c (.d (.v (.int .i64 t12))))), (17, .one (.c (.d (.v (.int .i64 o27))))), (92, .one (.c (.d (.sl (x0.map eImage))))), (93, .one (.c (.d (.v (.int .i64 ((x0.length : Int))))))), (94, .one (.c (.d (.v (.int .i64 ((o25_1 : Int)))))))], []⟩) ?_ ?_
            · have h := ho
              clear ho
              simp only [VW.down, Nat.reduceEqDiff, reduceCtorEq, Nat.reduceAdd, Nat.reduceLeDiff, Nat.reduceLT, EE.down]
              refine t_idxF (enc := eImage) (xs := x0) rfl rfl hxo25 rfl ?_
              simp only [VW.down, Nat.reduceEqDiff, reduceCtorEq, Nat.reduceAdd, Nat.reduceLeDiff, Nat.reduceLT, EE.down]
              obtain ⟨y28, hy28, h⟩ := Option.bind_eq_some_iff.1 h
              refine t_idxF (enc := eS) (xs := t11.2) rfl rfl hy28 rfl ?_
              simp only [VW.down, Nat.reduceEqDiff, reduceCtorEq, Nat.reduceAdd, Nat.reduceLeDiff, Nat.reduceLT, EE.down]
              refine condS (fun c29 => ?_) (fun c29 => ?_)
              · have h := (if_pos c29).symm.trans h
                simp only [VW.down, Nat.reduceEqDiff, reduceCtorEq, Nat.reduceAdd, Nat.reduceLeDiff, Nat.reduceLT, EE.down]
                obtain rfl := Option.some.inj h
                exact eM [] rfl
              · have h := (if_neg c29).symm.trans h
                simp only [VW.down, Nat.reduceEqDiff, reduceCtorEq, Nat.reduceAdd, Nat.reduceLeDiff, Nat.reduceLT, EE.down]
                obtain rfl := Option.some.inj h
                exact eM [] rfl
            · rintro _ rfl
              clear ho
              simp only [VW.down, Nat.reduceEqDiff, reduceCtorEq, Nat.reduceAdd, Nat.reduceLeDiff, Nat.reduceLT, EE.down]
              rw [wrapN (by omega)]
              exact eL' (x0.length - (o25_1 + 1)) [] ⟨o25_1 + 1, o27, ⟨by omega, rfl⟩, rfl, h⟩ (by omega)
          · rw [countN c26, F6_l25] at h
            simp only [VW.down, Nat.reduceEqDiff, reduceCtorEq, Nat.reduceAdd, Nat.reduceLeDiff, Nat.reduceLT, EE.down]
            obtain rfl := Option.some.inj h
            exact eM [] rfl
        · rintro _ rfl
          clear ho
          simp only [VW.down, Nat.reduceEqDiff, reduceCtorEq, Nat.reduceAdd, Nat.reduceLeDiff, Nat.reduceLT, EE.down]
          obtain ⟨o31, ho, h⟩ := Option.bind_eq_some_iff.1 h
          refine cutS (fun s => ∃ po31, o31 = Sum.inr po31 ∧ s = ⟨[(2, .one (.c (.d (.v (.int .i64 x2))))), (4, .one (.c (.d (.v (.int .i64 x4))))), (13, .one (.c (.d (.v (.int .i64 t12))))), (17, .one (.c (.d (.v (.int .i64 o25)))))], []⟩) ?_ ?_
          · have h0o31 := h
            have h := ho
            clear ho
            obtain ⟨_, hk, h⟩ := Option.bind_eq_some_iff.1 h
            have hk := ck_some hk
            simp only [VW.down, Nat.reduceEqDiff, reduceCtorEq, Nat.reduceAdd, Nat.reduceLeDiff, Nat.reduceLT, EE.down]
            refine bL (fun j s => ∃ (o31_0 : Nat), (o31_0 ≤ t11.1.length ∧ j = t11.1.length - o31_0) ∧ s = ⟨[(1, .one (.c (.d (.sl (x1.map eS))))), (2, .one (.c (.d (.v (.int .i64 x2))))), (4, .one (.c (.d (.v (.int .i64 x4))))), (13, .one (.c (.d (.v (.int .i64 t12))))), (17, .one (.c (.d (.v (.int .i64 o25))))), (110, .one (.c (.d (.sl (t11.1.map eImage))))), (111, .one (.c (.d (.v (.int .i64 ((t11.1.length : Int))))))), (112, .one (.c (.d (.v (.int .i64 ((o31_0 : Int)))))))], []⟩ ∧ F6_l31 t12 x1 x2 x4 (t11.1.drop o31_0) o31_0 = some o31) (t11.1.length - 0) [] ⟨0, ⟨hk.1, rfl⟩, rfl, h⟩ ?_
            rintro _ _ ⟨o31_0, ⟨hi, rfl⟩, rfl, h⟩
            simp only [VW.down, Nat.reduceEqDiff, reduceCtorEq, Nat.reduceAdd, Nat.reduceLeDiff, Nat.reduceLT, EE.down]
            refine condS (fun c32 => ?_) (fun c32 => ?_)
            · obtain ⟨xo31, hxo31, hd⟩ := countY c32
              rw [hd, F6_l31] at h
              simp only [VW.down, Nat.reduceEqDiff, reduceCtorEq, Nat.reduceAdd, Nat.reduceLeDiff, Nat.reduceLT, EE.down]
              refine t_idxF (enc := eImage) (xs := t11.1) rfl rfl hxo31 rfl ?_
              simp only [VW.down, Nat.reduceEqDiff, reduceCtorEq, Nat.reduceAdd, Nat.reduceLeDiff, Nat.reduceLT, EE.down]
              obtain ⟨o33, ho, h⟩ := Option.bind_eq_some_iff.1 h
              refine cutS (fun s => s = ⟨[(1, .one (.c (.d (.sl (x1.map eS))))), (2, .one (.c (.d (.v (.int .i64 x2))))), (4, .one (.c (.d (.v (.int .i64 x4))))), (13, .one (.c (.d (.v (.int .i64 t12))))), (17, .one (.c (.d (.v (.int .i64 o25))))), (110, .one (.c (.d (.sl (t11.1.map eImage))))), (111, .one (.c (.d (.v (.int .i64 ((t11.1.length : Int))))))), (112, .one (.c (.d (.v (.int .i64 ((o31_0 : Int))))))), (128, .one (.c (.d (.v (.bool o33)))))], []⟩) ?_ ?_
              · have h := ho
                clear ho
                simp only [VW.down, Nat.reduceEqDiff, reduceCtorEq, Nat.reduceAdd, Nat.reduceLeDiff, Nat.reduceLT, EE.down]
                obtain ⟨t34, ht34, h⟩ := Option.bind_eq_some_iff.1 h
                refine callX_n [] (F15_ok ht34) ?_ ?_ ?_ ?_ ?_ ?_
                · first | rfl | simp [nrmA, nrmC, nrm, A1.ren, C.ren, rn, List.length_set]
                · simp [liveAll, A1.live, C.live]
                · rfl
                · decide
                · exact trivial
                simp only [VW.down, Nat.reduceEqDiff, reduceCtorEq, Nat.reduceAdd, Nat.reduceLeDiff, Nat.reduceLT, EE.down]
                refine guardSB (fun g35 => ?_) (fun g35 => ?_)
                · have h := (if_pos g35).symm.trans h
                  simp only [VW.down, Nat.reduceEqDiff, reduceCtorEq, Nat.reduceAdd, Nat.reduceLeDiff, Nat.reduceLT, EE.down]
                  obtain rfl := Option.some.inj h
                  exact eM [] rfl
                · have h := (if_neg g35).symm.trans h
                  simp only [VW.down, Nat.reduceEqDiff, reduceCtorEq, Nat.reduceAdd, Nat.reduceLeDiff, Nat.reduceLT, EE.down]
                  obtain rfl := Option.some.inj h
                  exact eM [] rfl
              · rintro _ rfl
                clear ho
                simp only [VW.down, Nat.reduceEqDiff, reduceCtorEq, Nat.reduceAdd, Nat.reduceLeDiff, Nat.reduceLT, EE.down]
                refine condB (fun c36 => ?_) (fun c36 => ?_)
                · have h := (if_pos c36).symm.trans h
                  simp only [VW.down, Nat.reduceEqDiff, reduceCtorEq, Nat.reduceAdd, Nat.reduceLeDiff, Nat.reduceLT, EE.down]
                  obtain ⟨fh0o31, hfh0o31, rfl⟩ := Option.map_eq_some_iff.1 h
                  have h := hfh0o31.trans h0o31
                  obtain rfl := Option.some.inj h
                  exact eF []
                · have h := (if_neg c36).symm.trans h
                  simp only [VW.down, Nat.reduceEqDiff, reduceCtorEq, Nat.reduceAdd, Nat.reduceLeDiff, Nat.reduceLT, EE.down]
                  rw [wrapN (by omega)]
                  exact eL' (t11.1.length - (o31_0 + 1)) [] ⟨o31_0 + 1, ⟨by omega, rfl⟩, rfl, h⟩ (by omega)
            · rw [countN c32, F6_l31] at h
              simp only [VW.down, Nat.reduceEqDiff, reduceCtorEq, Nat.reduceAdd, Nat.reduceLeDiff, Nat.reduceLT, EE.down]
              obtain rfl := Option.some.inj h
              exact eM [] ⟨_, rfl, rfl⟩
          · rintro _ ⟨po31, rfl, rfl⟩
            clear ho
            dsimp only at h
            simp only [VW.down, Nat.reduceEqDiff, reduceCtorEq, Nat.reduceAdd, Nat.reduceLeDiff, Nat.reduceLT, EE.down]
            obtain ⟨o38, ho, h⟩ := Option.bind_eq_some_iff.1 h
            refine cutS (fun s => s = ⟨[(10, .one (.c (.d (.v (.bool o38)))))], []⟩) ?_ ?_
            · have h := ho
              clear ho
              simp only [VW.down, Nat.reduceEqDiff, reduceCtorEq, Nat.reduceAdd, Nat.reduceLeDiff, Nat.reduceLT, EE.down]
              refine guardS (fun g39 => ?_) (fun g39 => ?_)
              · have h := (if_pos g39).symm.trans h
                simp only [VW.down, Nat.reduceEqDiff, reduceCtorEq, Nat.reduceAdd, Nat.reduceLeDiff, Nat.reduceLT, EE.down]
                obtain ⟨t40, ht40, h⟩ := Option.bind_eq_some_iff.1 h
                refine callX_n [] (F8_ok ht40) ?_ ?_ ?_ ?_ ?_ ?_
                · first | rfl | simp [nrmA, nrmC, nrm, A1.ren, C.ren, rn, List.length_set]
                · simp [liveAll, A1.live, C.live]
                · rfl
                · decide
                · exact trivial
                simp only [VW.down, Nat.reduceEqDiff, reduceCtorEq, Nat.reduceAdd, Nat.reduceLeDiff, Nat.reduceLT, EE.down]
                obtain rfl := Option.some.inj h
                exact eM [] rfl
              · have h := (if_neg g39).symm.trans h
                simp only [VW.down, Nat.reduceEqDiff, reduceCtorEq, Nat.reduceAdd, Nat.reduceLeDiff, Nat.reduceLT, EE.down]
                obtain rfl := Option.some.inj h
                exact eM [] rfl
            · rintro _ rfl
              clear ho
              simp only [VW.down, Nat.reduceEqDiff, reduceCtorEq, Nat.reduceAdd, Nat.reduceLeDiff, Nat.reduceLT, EE.down]
              obtain rfl := Option.some.inj h
              exact eF []
end Go.Proofs.Ytncofnbldpfegaa
