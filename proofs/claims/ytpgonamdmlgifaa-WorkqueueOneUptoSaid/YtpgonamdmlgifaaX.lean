/- Each Go function as a function over typed data, and its walk. -/
import Derived.Test.YtpgonamdmlgifaaFE
import Derived.KernelRfl
import Derived.Test.YtpgonamdmlgifaaProg
namespace Go.Proofs.Ytpgonamdmlgifaa
open Go Go.Fw
set_option maxRecDepth 100000
set_option maxHeartbeats 4000000
set_option linter.unusedSimpArgs false
set_option linter.unusedVariables false
structure Op where
  Kind : Int
  Key : ByteArray
  N : Int
  Base : Int
  Limit : Int
  deriving DecidableEq
def okOp (x : Op) : Prop := ok8 x.Kind ∧ okT x.Key ∧ okN x.N ∧ okN x.Base ∧ okN x.Limit ∧ True
def wOp (x : Op) : Nat := wN x.Kind + (wS x.Key + (wN x.N + (wN x.Base + (wN x.Limit + 0)))) + 1
def eOp (x : Op) : List D := [.v (.int .u8 x.Kind), .v (.string x.Key), .v (.int .i64 x.N), .v (.int .i64 x.Base), .v (.int .i64 x.Limit)]
structure WorkItem where
  Key : ByteArray
  At : Int
  deriving DecidableEq
def okWorkItem (x : WorkItem) : Prop := okT x.Key ∧ okN x.At ∧ True
def wWorkItem (x : WorkItem) : Nat := wS x.Key + (wN x.At + 0) + 1
def eWorkItem (x : WorkItem) : List D := [.v (.string x.Key), .v (.int .i64 x.At)]
structure WorkQueue where
  Ready : (List ByteArray)
  Working : (List ByteArray)
  Dirty : (List ByteArray)
  Later : (List WorkItem)
  Retries : (List WorkItem)
  deriving DecidableEq
def okWorkQueue (x : WorkQueue) : Prop := (okL okT) x.Ready ∧ (okL okT) x.Working ∧ (okL okT) x.Dirty ∧ (okL okWorkItem) x.Later ∧ (okL okWorkItem) x.Retries ∧ True
def wWorkQueue (x : WorkQueue) : Nat := (wL wS) x.Ready + ((wL wS) x.Working + ((wL wS) x.Dirty + ((wL wWorkItem) x.Later + ((wL wWorkItem) x.Retries + 0)))) + 1
def eWorkQueue (x : WorkQueue) : List D := [.sl (x.Ready.map eS), .sl (x.Working.map eS), .sl (x.Dirty.map eS), .sl (x.Later.map eWorkItem), .sl (x.Retries.map eWorkItem)]
def EE := PLift.up (And.intro (And.intro (And.intro @eI.eq_1 @eB.eq_1) (And.intro @eS.eq_1 @eK.eq_1)) (And.intro (And.intro @eL.eq_1 @eOp.eq_1) (And.intro @eWorkItem.eq_1 @eWorkQueue.eq_1)))
theorem eM {n m : Nat} {Q : XT → St → Prop} {R : St → Prop} {s' : St} {sl : List (Nat × AV)} {H' : List (Option Blk)} (σ : Src) (hR : R ⟨sl, H'⟩) (hB : shBs s'.heap σ H' σ H' := by simp only [ZZ.down, Nat.reduceEqDiff, reduceCtorEq, Nat.reduceAdd, Nat.reduceLeDiff, Nat.reduceLT, Nat.reduceBNe, EE.down]) (hk : keepS 0 (s'.heap.take m) σ H' := by simp only [ZZ.down, Nat.reduceEqDiff, reduceCtorEq, Nat.reduceAdd, Nat.reduceLeDiff, Nat.reduceLT, Nat.reduceBNe, EE.down]) (hs : shSl s'.heap σ H' s'.slots sl := by simp only [ZZ.down, Nat.reduceEqDiff, reduceCtorEq, Nat.reduceAdd, Nat.reduceLeDiff, Nat.reduceLT, Nat.reduceBNe, EE.down]) (hn : nodupS σ = true := by rfl) : sM n m R Q .normal s' := endM σ ⟨hB, hn, hk⟩ hs hR
theorem eL' {n m : Nat} {Q : XT → St → Prop} {I : Nat → St → Prop} {j : Nat} (k' : Nat) {s' : St} {sl : List (Nat × AV)} {H' : List (Option Blk)} (σ : Src) (hI : I k' ⟨sl, H'⟩) (hj : k' < j) (hB : shBs s'.heap σ H' σ H' := by simp only [ZZ.down, Nat.reduceEqDiff, reduceCtorEq, Nat.reduceAdd, Nat.reduceLeDiff, Nat.reduceLT, Nat.reduceBNe, EE.down]) (hk : keepS 0 (s'.heap.take m) σ H' := by simp only [ZZ.down, Nat.reduceEqDiff, reduceCtorEq, Nat.reduceAdd, Nat.reduceLeDiff, Nat.reduceLT, Nat.reduceBNe, EE.down]) (hs : shSl s'.heap σ H' s'.slots sl := by simp only [ZZ.down, Nat.reduceEqDiff, reduceCtorEq, Nat.reduceAdd, Nat.reduceLeDiff, Nat.reduceLT, Nat.reduceBNe, EE.down]) (hn : nodupS σ = true := by rfl) : sL n m I j Q .normal s' := endL k' hj σ ⟨hB, hn, hk⟩ hs hI
theorem bL {P : Program} {n m : Nat} {Q : XT → St → Prop} {s : St} {k : List Frm} {body : AC} (I : Nat → St → Prop) (k0 : Nat) {sl : List (Nat × AV)} {H' : List (Option Blk)} (σ : Src) (hI : I k0 ⟨sl, H'⟩) (hr : ∀ j s, I j s → sK P n m body [] (sL n m I j (sU P n m k Q)) s) (hB : shBs s.heap σ H' σ H' := by simp only [ZZ.down, Nat.reduceEqDiff, reduceCtorEq, Nat.reduceAdd, Nat.reduceLeDiff, Nat.reduceLT, Nat.reduceBNe, EE.down]) (hk : keepS 0 (s.heap.take m) σ H' := by simp only [ZZ.down, Nat.reduceEqDiff, reduceCtorEq, Nat.reduceAdd, Nat.reduceLeDiff, Nat.reduceLT, Nat.reduceBNe, EE.down]) (hs : shSl s.heap σ H' s.slots sl := by simp only [ZZ.down, Nat.reduceEqDiff, reduceCtorEq, Nat.reduceAdd, Nat.reduceLeDiff, Nat.reduceLT, Nat.reduceBNe, EE.down]) (hn : nodupS σ = true := by rfl) : WpC P n m (.loop body) (sU P n m k Q) s := begL I k0 σ ⟨hB, hn, hk⟩ hs hI hr
theorem eF {m : Nat} {h : List (Option Blk)} {l res : List A1} {H' : List (Option Blk)} (σ : Src) (hB : shBs h σ H' σ H' := by simp only [ZZ.down, Nat.reduceEqDiff, reduceCtorEq, Nat.reduceAdd, Nat.reduceLeDiff, Nat.reduceLT, Nat.reduceBNe, EE.down]) (hk : keepS 0 (h.take m) σ H' := by simp only [ZZ.down, Nat.reduceEqDiff, reduceCtorEq, Nat.reduceAdd, Nat.reduceLeDiff, Nat.reduceLT, Nat.reduceBNe, EE.down]) (hs : shAs h σ H' res l := by simp only [ZZ.down, Nat.reduceEqDiff, reduceCtorEq, Nat.reduceAdd, Nat.reduceLeDiff, Nat.reduceLT, Nat.reduceBNe, EE.down]) (hn : nodupS σ = true := by rfl) : Fin m h l res H' := fin_sh σ ⟨hB, hn, hk⟩ hs


/- orchestrator/orchestratorlaw31.heavy -/
def F7_l1  : List Op → Nat → Option ((Bool) ⊕ (Unit))
  | [], o1_0 => some (Sum.inr (()))
  | xo1 :: xs, o1_0 => (if 100 < (xo1.Key.size : Int) then (some true).map Sum.inl else F7_l1  xs (o1_0 + 1))
def F7 (x0 : (List Op)) : Option (Bool) := (((ck (0 ≤ x0.length ∧ x0.length ≤ 4294967290)).bind fun u4 => F7_l1 x0 0).bind fun o1 => match o1 with | Sum.inl f => some f | Sum.inr po1 => some (decide (60 < (x0.length : Int))))
def a7 : AFn := ⟨20, [(.tmp 2)],
 (.seq (.reg [⟨(some 2), none, .mv (kB false), [], (.new [])⟩])
 (.seq (.seq (.reg [⟨(some 3), none, .mv (kI 0), [], (.new [])⟩])
 (.sem (.block 0 (.loop (.seq (.seq (.reg [⟨(some 4), none, .mv (.t 3), [], (.new [])⟩,
   ⟨(some 5), none, .mv (.t 0), [], (.new [])⟩,
   ⟨(some 6), none, .len (.t 5), [], (.new [])⟩,
   ⟨(some 7), none, .bin .lss (.t 4) (.t 6), [], (.new [])⟩])
 (.cond (.t 7)
 .skip
 (.exit 0)))
 (.seq (.block 1 (.seq (.reg [⟨(some 10), none, .mv (.t 0), [], (.new [])⟩,
   ⟨(some 11), none, .mv (.t 3), [], (.new [])⟩,
   ⟨(some 12), none, .indexA 5 (.t 10) (.t 11), [], (.new [])⟩,
   ⟨(some 13), none, .fieldA 1 (.t 12), [], (.new [])⟩,
   ⟨(some 14), none, .load none (.t 13), [], (.new [])⟩,
   ⟨(some 15), none, .slen (.t 14), [], (.new [])⟩,
   ⟨(some 16), none, .bin .gtr (.t 15) (kI 100), [], (.new [])⟩])
 (.cond (.t 16)
 (.seq (.reg [⟨(some 2), none, .mv (kB true), [], (.new [])⟩])
 .ret)
 .skip)))
 (.reg [⟨(some 8), none, .mv (.t 3), [], (.new [])⟩,
   ⟨(some 9), none, .bin .add (.t 8) (kI 1), [], (.new [])⟩,
   ⟨(some 3), none, .mv (.t 9), [], (.new [])⟩])))))))
 (.seq (.reg [⟨(some 17), none, .mv (.t 0), [], (.new [])⟩,
   ⟨(some 18), none, .len (.t 17), [], (.new [])⟩,
   ⟨(some 19), none, .bin .gtr (.t 18) (kI 60), [], (.new [])⟩,
   ⟨(some 2), none, .mv (.t 19), [], (.new [])⟩])
 .ret)))⟩
theorem a7_ok : afn Try.prog 7 = some a7.er := by kernel_rfl
theorem F7_ok {x0 : (List Op)} {r : Bool} (h : F7 x0 = some r) : CallD Try.prog 7 [.c (.d (.sl (x0.map eOp)))] [] (tupV [.c (.d (.v (.bool r)))]) [] := by
  refine callS a7_ok (by simp [a7]) ?_
  rw [F7] at h
  simp only [a7, VW.down, Nat.reduceEqDiff, reduceCtorEq, Nat.reduceAdd, Nat.reduceLeDiff, Nat.reduceLT, Nat.reduceBEq, Nat.reduceSub, EE.down]
  obtain ⟨o1, ho, h⟩ := Option.bind_eq_some_iff.1 h
  refine cutS (fun s => ∃ po1, o1 = Sum.inr po1 ∧ s = ⟨[(0, .one (.c (.d (.sl (x0.map eOp)))))], []⟩) ?_ ?_
  · have h0o1 := h
    have h := ho
    clear ho
    obtain ⟨_, hk, h⟩ := Option.bind_eq_some_iff.1 h
    have hk := ck_some hk
    simp only [VW.down, Nat.reduceEqDiff, reduceCtorEq, Nat.reduceAdd, Nat.reduceLeDiff, Nat.reduceLT, Nat.reduceBEq, Nat.reduceSub, EE.down]
    refine bL (fun j s => ∃ (o1_0 : Nat), (o1_0 ≤ x0.length ∧ j = x0.length - o1_0) ∧ s = ⟨[(0, .one (.c (.d (.sl (x0.map eOp))))), (3, .one (.c (.d (.v (.int .i64 ((o1_0 : Int)))))))], []⟩ ∧ F7_l1 (x0.drop o1_0) o1_0 = some o1) (x0.length - 0) [] ⟨0, ⟨hk.1, rfl⟩, rfl, h⟩ ?_
    rintro _ _ ⟨o1_0, ⟨hi, rfl⟩, rfl, h⟩
    simp only [VW.down, Nat.reduceEqDiff, reduceCtorEq, Nat.reduceAdd, Nat.reduceLeDiff, Nat.reduceLT, Nat.reduceBEq, Nat.reduceSub, EE.down]
    refine condS (fun c2 => ?_) (fun c2 => ?_)
    · obtain ⟨xo1, hxo1, hd⟩ := countY c2
      rw [hd, F7_l1] at h
      simp only [VW.down, Nat.reduceEqDiff, reduceCtorEq, Nat.reduceAdd, Nat.reduceLeDiff, Nat.reduceLT, Nat.reduceBEq, Nat.reduceSub, EE.down]
      refine t_idxF (enc := eOp) (xs := x0) rfl rfl hxo1 rfl ?_
      simp only [VW.down, Nat.reduceEqDiff, reduceCtorEq, Nat.reduceAdd, Nat.reduceLeDiff, Nat.reduceLT, Nat.reduceBEq, Nat.reduceSub, EE.down]
      refine condS (fun c3 => ?_) (fun c3 => ?_)
      · have h := (if_pos c3).symm.trans h
        simp only [VW.down, Nat.reduceEqDiff, reduceCtorEq, Nat.reduceAdd, Nat.reduceLeDiff, Nat.reduceLT, Nat.reduceBEq, Nat.reduceSub, EE.down]
        obtain ⟨fh0o1, hfh0o1, rfl⟩ := Option.map_eq_some_iff.1 h
        have h := hfh0o1.trans h0o1
        obtain rfl := Option.some.inj h
        exact eF []
      · have h := (if_neg c3).symm.trans h
        simp only [VW.down, Nat.reduceEqDiff, reduceCtorEq, Nat.reduceAdd, Nat.reduceLeDiff, Nat.reduceLT, Nat.reduceBEq, Nat.reduceSub, EE.down]
        rw [wrapN (by omega)]
        exact eL' (x0.length - (o1_0 + 1)) [] ⟨o1_0 + 1, ⟨by omega, rfl⟩, rfl, h⟩ (by omega)
    · rw [countN c2, F7_l1] at h
      simp only [VW.down, Nat.reduceEqDiff, reduceCtorEq, Nat.reduceAdd, Nat.reduceLeDiff, Nat.reduceLT, Nat.reduceBEq, Nat.reduceSub, EE.down]
      obtain rfl := Option.some.inj h
      exact eM [] ⟨_, rfl, rfl⟩
  · rintro _ ⟨po1, rfl, rfl⟩
    clear ho
    dsimp only at h
    simp only [VW.down, Nat.reduceEqDiff, reduceCtorEq, Nat.reduceAdd, Nat.reduceLeDiff, Nat.reduceLT, Nat.reduceBEq, Nat.reduceSub, EE.down]
    obtain rfl := Option.some.inj h
    exact eF []

/- orchestrator/workqueue.New -/
def F9  : Option (Unit) := some (())
def a9 : AFn := ⟨2, [(.cell 0 (some 5))],
 (.seq (.reg [⟨(some 0), none, .zbox [.d (.v (.slice none 0 0)), .d (.v (.slice none 0 0)), .d (.v (.slice none 0 0)), .d (.v (.slice none 0 0)), .d (.v (.slice none 0 0))], [], (.lone [])⟩])
 (.seq (.reg [⟨(some 1), none, .build [.d (.v (.slice none 0 0)), .d (.v (.slice none 0 0)), .d (.v (.slice none 0 0)), .d (.v (.slice none 0 0)), .d (.v (.slice none 0 0))] [], [], (.new [])⟩,
   ⟨none, none, .store 5 (.t 0) (.t 1), [], (.new [])⟩])
 .ret))⟩
theorem a9_ok : afn Try.prog 9 = some a9.er := by kernel_rfl
theorem F9_ok {r : Unit} (h : F9 = some r) : CallD Try.prog 9 [] [] (tupV [.agg [.d (.sl (([] : List ByteArray).map eS)), .d (.sl (([] : List ByteArray).map eS)), .d (.sl (([] : List ByteArray).map eS)), .d (.sl (([] : List WorkItem).map eWorkItem)), .d (.sl (([] : List WorkItem).map eWorkItem))]]) [] := by
  refine callS a9_ok (by simp [a9]) ?_
  rw [F9] at h
  simp only [a9, VW.down, Nat.reduceEqDiff, reduceCtorEq, Nat.reduceAdd, Nat.reduceLeDiff, Nat.reduceLT, Nat.reduceBEq, Nat.reduceSub, EE.down]
  obtain rfl := Option.some.inj h
  exact eF []

/- slices.Clone[[]string,string] -/
theorem a59_ok : afn Try.prog 59 = some (cloneA 1 16) := by kernel_rfl
theorem F59_ok {x0 r : List ByteArray} (h : cloneI x0 = some r) : CallD Try.prog 59 [.c (.d (.sl (x0.map eS)))] [] (tupV [.c (.own 0 1 0 r.length none)]) [some (.arr 1 1 (r.map eS))] := L_clone a59_ok (fun _ => rfl) h

/- slices.Clone[[]orchestrator/api.WorkItem,orchestrator/api.WorkItem] -/
theorem a45_ok : afn Try.prog 45 = some (cloneA 2 24) := by kernel_rfl
theorem F45_ok {x0 r : List WorkItem} (h : cloneI x0 = some r) : CallD Try.prog 45 [.c (.d (.sl (x0.map eWorkItem)))] [] (tupV [.c (.own 0 1 0 r.length none)]) [some (.arr 1 2 (r.map eWorkItem))] := L_clone a45_ok (fun _ => rfl) h

/- orchestrator/workqueue.copied -/
def F32 (x0 : WorkQueue) : Option ((List ByteArray) × (List ByteArray) × (List ByteArray) × (List WorkItem) × (List WorkItem)) := (cloneI x0.Ready).bind fun t1 => (cloneI x0.Working).bind fun t2 => (cloneI x0.Dirty).bind fun t3 => (cloneI x0.Later).bind fun t4 => (cloneI x0.Retries).bind fun t5 => some ((t1, t2, t3, t4, t5))
def a32 : AFn := ⟨19, [(.cell 2 (some 5))],
 (.seq (.reg [⟨(some 1), none, .box (.t 0), [], (.new [])⟩,
   ⟨(some 2), none, .zbox [.d (.v (.slice none 0 0)), .d (.v (.slice none 0 0)), .d (.v (.slice none 0 0)), .d (.v (.slice none 0 0)), .d (.v (.slice none 0 0))], [], (.new [])⟩])
 (.seq (.regd [⟨(some 3), none, .fieldA 0 (.t 1), [], (.new [])⟩,
   ⟨(some 4), none, .load none (.t 3), [0], (.new [])⟩,
   ⟨(some 5), none, .call 59 [(.t 4)], [0, 1], (.new [0, 1])⟩,
   ⟨(some 6), none, .fieldA 1 (.t 1), [], (.new [])⟩,
   ⟨(some 7), none, .load none (.t 6), [3], (.new [])⟩,
   ⟨(some 8), none, .call 59 [(.t 7)], [0, 1, 2, 3, 4], (.new [0, 1, 2, 3, 4])⟩,
   ⟨(some 9), none, .fieldA 2 (.t 1), [], (.new [])⟩,
   ⟨(some 10), none, .load none (.t 9), [6], (.new [])⟩,
   ⟨(some 11), none, .call 59 [(.t 10)], [0, 1, 2, 3, 4, 5, 6, 7], (.new [0, 1, 2, 3, 4, 5, 6, 7])⟩,
   ⟨(some 12), none, .fieldA 3 (.t 1), [], (.new [])⟩,
   ⟨(some 13), none, .load none (.t 12), [9], (.new [])⟩,
   ⟨(some 14), none, .call 45 [(.t 13)], [0, 1, 2, 3, 4, 5, 6, 7, 8, 9, 10], (.new [0, 1, 2, 3, 4, 5, 6, 7, 8, 9, 10])⟩,
   ⟨(some 15), none, .fieldA 4 (.t 1), [], (.new [])⟩,
   ⟨(some 16), none, .load none (.t 15), [12], (.new [])⟩,
   ⟨(some 17), none, .call 45 [(.t 16)], [0, 1, 2, 3, 4, 5, 6, 7, 8, 9, 10, 11, 12, 13], (.lone [])⟩,
   ⟨(some 18), none, .build [.d (.v (.slice none 0 0)), .d (.v (.slice none 0 0)), .d (.v (.slice none 0 0)), .d (.v (.slice none 0 0)), .d (.v (.slice none 0 0))] [(0, 1, (.t 5)), (1, 1, (.t 8)), (2, 1, (.t 11)), (3, 1, (.t 14)), (4, 1, (.t 17))], [0, 1, 2, 3, 4, 5, 6, 7, 8, 9, 10, 11, 12, 13, 14], (.lone [])⟩,
   ⟨none, none, .store 5 (.t 2) (.t 18), [0, 1, 2, 3, 4, 5, 6, 7, 8, 9, 10, 11, 12, 13, 14, 15], (.lone [])⟩])
 .ret))⟩
theorem a32_ok : afn Try.prog 32 = some a32.er := by kernel_rfl
theorem F32_ok {x0 : WorkQueue} {r : (List ByteArray) × (List ByteArray) × (List ByteArray) × (List WorkItem) × (List WorkItem)} (h : F32 x0 = some r) : CallD Try.prog 32 [.agg [.d (.sl (x0.Ready.map eS)), .d (.sl (x0.Working.map eS)), .d (.sl (x0.Dirty.map eS)), .d (.sl (x0.Later.map eWorkItem)), .d (.sl (x0.Retries.map eWorkItem))]] [] (tupV [.agg [.own 0 0 0 (r.1.length) none, .own 1 0 0 (r.2.1.length) none, .own 2 0 0 (r.2.2.1.length) none, .own 3 0 0 (r.2.2.2.1.length) none, .own 4 0 0 (r.2.2.2.2.length) none]]) [some (.arr 0 1 (r.1.map eS)), some (.arr 0 1 (r.2.1.map eS)), some (.arr 0 1 (r.2.2.1.map eS)), some (.arr 0 2 (r.2.2.2.1.map eWorkItem)), some (.arr 0 2 (r.2.2.2.2.map eWorkItem))] := by
  refine callS a32_ok (by simp [a32]) ?_
  rw [F32] at h
  simp only [a32, VW.down, Nat.reduceEqDiff, reduceCtorEq, Nat.reduceAdd, Nat.reduceLeDiff, Nat.reduceLT, Nat.reduceBEq, Nat.reduceSub, EE.down]
  obtain ⟨t1, ht1, h⟩ := Option.bind_eq_some_iff.1 h
  refine callX_n [] (F59_ok ht1) ?_ ?_ ?_ ?_ ?_ ?_
  · first | rfl | simp [nrmA, nrmC, nrm, A1.ren, C.ren, rn, List.length_set]
  · simp [liveAll, A1.live, C.live]
  · rfl
  · decide
  · exact trivial
  simp only [VW.down, Nat.reduceEqDiff, reduceCtorEq, Nat.reduceAdd, Nat.reduceLeDiff, Nat.reduceLT, Nat.reduceBEq, Nat.reduceSub, EE.down]
  refine kD_new (by simp [wrs, allW, hset]) ?_
  simp only [VW.down, Nat.reduceEqDiff, reduceCtorEq, Nat.reduceAdd, Nat.reduceLeDiff, Nat.reduceLT, Nat.reduceBEq, Nat.reduceSub, EE.down]
  obtain ⟨t2, ht2, h⟩ := Option.bind_eq_some_iff.1 h
  refine callX_n [] (F59_ok ht2) ?_ ?_ ?_ ?_ ?_ ?_
  · first | rfl | simp [nrmA, nrmC, nrm, A1.ren, C.ren, rn, List.length_set]
  · simp [liveAll, A1.live, C.live]
  · rfl
  · decide
  · exact trivial
  simp only [VW.down, Nat.reduceEqDiff, reduceCtorEq, Nat.reduceAdd, Nat.reduceLeDiff, Nat.reduceLT, Nat.reduceBEq, Nat.reduceSub, EE.down]
  refine kD_new (by simp [wrs, allW, hset]) ?_
  simp only [VW.down, Nat.reduceEqDiff, reduceCtorEq, Nat.reduceAdd, Nat.reduceLeDiff, Nat.reduceLT, Nat.reduceBEq, Nat.reduceSub, EE.down]
  obtain ⟨t3, ht3, h⟩ := Option.bind_eq_some_iff.1 h
  refine callX_n [] (F59_ok ht3) ?_ ?_ ?_ ?_ ?_ ?_
  · first | rfl | simp [nrmA, nrmC, nrm, A1.ren, C.ren, rn, List.length_set]
  · simp [liveAll, A1.live, C.live]
  · rfl
  · decide
  · exact trivial
  simp only [VW.down, Nat.reduceEqDiff, reduceCtorEq, Nat.reduceAdd, Nat.reduceLeDiff, Nat.reduceLT, Nat.reduceBEq, Nat.reduceSub, EE.down]
  refine kD_new (by simp [wrs, allW, hset]) ?_
  simp only [VW.down, Nat.reduceEqDiff, reduceCtorEq, Nat.reduceAdd, Nat.reduceLeDiff, Nat.reduceLT, Nat.reduceBEq, Nat.reduceSub, EE.down]
  obtain ⟨t4, ht4, h⟩ := Option.bind_eq_some_iff.1 h
  refine callX_n [] (F45_ok ht4) ?_ ?_ ?_ ?_ ?_ ?_
  · first | rfl | simp [nrmA, nrmC, nrm, A1.ren, C.ren, rn, List.length_set]
  · simp [liveAll, A1.live, C.live]
  · rfl
  · decide
  · exact trivial
  simp only [VW.down, Nat.reduceEqDiff, reduceCtorEq, Nat.reduceAdd, Nat.reduceLeDiff, Nat.reduceLT, Nat.reduceBEq, Nat.reduceSub, EE.down]
  refine kD_new (by simp [wrs, allW, hset]) ?_
  simp only [VW.down, Nat.reduceEqDiff, reduceCtorEq, Nat.reduceAdd, Nat.reduceLeDiff, Nat.reduceLT, Nat.reduceBEq, Nat.reduceSub, EE.down]
  obtain ⟨t5, ht5, h⟩ := Option.bind_eq_some_iff.1 h
  refine callX_n [] (F45_ok ht5) ?_ ?_ ?_ ?_ ?_ ?_
  · first | rfl | simp [nrmA, nrmC, nrm, A1.ren, C.ren, rn, List.length_set]
  · simp [liveAll, A1.live, C.live]
  · rfl
  · decide
  · exact trivial
  simp only [VW.down, Nat.reduceEqDiff, reduceCtorEq, Nat.reduceAdd, Nat.reduceLeDiff, Nat.reduceLT, Nat.reduceBEq, Nat.reduceSub, EE.down]
  obtain rfl := Option.some.inj h
  exact eF [some 2, some 3, some 4, some 5, some 6]

/- orchestrator/workqueue.of[string] -/
def F60 (x0 : (List ByteArray)) : Option ((List ByteArray)) := (cloneI x0).bind fun t1 => some t1
def a60 : AFn := ⟨10, [(.tmp 4)],
 (.seq (.reg [⟨(some 4), none, .mv (.k (.c (.d (.v (.pointer none))))), [], (.new [])⟩])
 (.seq (.reg [⟨(some 5), none, .mv (.t 0), [], (.new [])⟩,
   ⟨(some 6), none, .call 59 [(.t 5)], [], (.new [])⟩,
   ⟨(some 7), none, .mv (.t 1), [], (.new [])⟩,
   ⟨(some 8), none, .build [.d (.v (.slice none 0 0)), .d (.v (.nilFunc))] [(0, 1, (.t 6)), (1, 1, (.t 7))], [], (.new [])⟩,
   ⟨(some 9), none, .box (.t 8), [], (.new [])⟩,
   ⟨(some 4), none, .mv (.t 9), [], (.new [])⟩])
 .ret))⟩
theorem a60_ok : afn Try.prog 60 = some a60.er := by kernel_rfl
theorem F60_ok {x0 : (List ByteArray)} {r : (List ByteArray)} (h : F60 x0 = some r) : CallD Try.prog 60 [.c (.d (.sl (x0.map eS))), .c (.fn 61 [])] [] (tupV [.c (.pt 0 0)]) [some (.box [.own 1 0 0 (r.length) none, .fn 61 []]), some (.arr 0 1 (r.map eS))] := by
  refine callS a60_ok (by simp [a60]) ?_
  rw [F60] at h
  simp only [a60, VW.down, Nat.reduceEqDiff, reduceCtorEq, Nat.reduceAdd, Nat.reduceLeDiff, Nat.reduceLT, Nat.reduceBEq, Nat.reduceSub, EE.down]
  obtain ⟨t1, ht1, h⟩ := Option.bind_eq_some_iff.1 h
  refine callX_n [] (F59_ok ht1) ?_ ?_ ?_ ?_ ?_ ?_
  · first | rfl | simp [nrmA, nrmC, nrm, A1.ren, C.ren, rn, List.length_set]
  · simp [liveAll, A1.live, C.live]
  · rfl
  · decide
  · exact trivial
  simp only [VW.down, Nat.reduceEqDiff, reduceCtorEq, Nat.reduceAdd, Nat.reduceLeDiff, Nat.reduceLT, Nat.reduceBEq, Nat.reduceSub, EE.down]
  obtain rfl := Option.some.inj h
  exact eF [some 1, some 0]

/- orchestrator/workqueue.keys -/
def F33 (x0 : (List ByteArray)) : Option ((List ByteArray)) := (F60 x0).bind fun t1 => some t1
def a33 : AFn := ⟨5, [(.tmp 2)],
 (.seq (.reg [⟨(some 2), none, .mv (.k (.c (.d (.v (.pointer none))))), [], (.new [])⟩])
 (.seq (.reg [⟨(some 3), none, .mv (.t 0), [], (.new [])⟩,
   ⟨(some 4), none, .call 60 [(.t 3), (.f 61)], [], (.new [])⟩,
   ⟨(some 2), none, .mv (.t 4), [], (.new [])⟩])
 .ret))⟩
theorem a33_ok : afn Try.prog 33 = some a33.er := by kernel_rfl
theorem F33_ok {x0 : (List ByteArray)} {r : (List ByteArray)} (h : F33 x0 = some r) : CallD Try.prog 33 [.c (.d (.sl (x0.map eS)))] [] (tupV [.c (.pt 0 0)]) [some (.box [.own 1 0 0 (r.length) none, .fn 61 []]), some (.arr 0 1 (r.map eS))] := by
  refine callS a33_ok (by simp [a33]) ?_
  rw [F33] at h
  simp only [a33, VW.down, Nat.reduceEqDiff, reduceCtorEq, Nat.reduceAdd, Nat.reduceLeDiff, Nat.reduceLT, Nat.reduceBEq, Nat.reduceSub, EE.down]
  obtain ⟨t1, ht1, h⟩ := Option.bind_eq_some_iff.1 h
  refine callX_n [] (F60_ok ht1) ?_ ?_ ?_ ?_ ?_ ?_
  · first | rfl | simp [nrmA, nrmC, nrm, A1.ren, C.ren, rn, List.length_set]
  · simp [liveAll, A1.live, C.live]
  · rfl
  · decide
  · exact trivial
  simp only [VW.down, Nat.reduceEqDiff, reduceCtorEq, Nat.reduceAdd, Nat.reduceLeDiff, Nat.reduceLT, Nat.reduceBEq, Nat.reduceSub, EE.down]
  obtain rfl := Option.some.inj h
  exact eF [some 0, some 1]

/- slices.Index[[]string,string] -/
def F64_l1 (x1 : ByteArray) : List ByteArray → Nat → Option ((Int) ⊕ (Unit))
  | [], o1_0 => some (Sum.inr (()))
  | xo1 :: xs, o1_0 => (if x1 = xo1 then (some ((o1_0 : Int))).map Sum.inl else F64_l1 x1 xs (o1_0 + 1))
def F64 (x0 : (List ByteArray)) (x1 : ByteArray) : Option (Int) := (((ck (0 ≤ x0.length ∧ x0.length ≤ 4294967290)).bind fun u4 => F64_l1 x1 x0 0).bind fun o1 => match o1 with | Sum.inl f => some f | Sum.inr po1 => some ((-1)))
def a64 : AFn := ⟨19, [(.tmp 4)],
 (.seq (.reg [⟨(some 4), none, .mv (kI 0), [], (.new [])⟩])
 (.seq (.seq (.reg [⟨(some 6), none, .mv (.t 0), [], (.new [])⟩,
   ⟨(some 7), none, .len (.t 6), [], (.new [])⟩,
   ⟨(some 8), none, .mv (kI 0), [], (.new [])⟩])
 (.sem (.block 0 (.loop (.seq (.reg [⟨(some 9), none, .bin .lss (.t 8) (.t 7), [], (.new [])⟩])
 (.seq (.cond (.t 9)
 .skip
 (.exit 0))
 (.seq (.block 1 (.seq (.reg [⟨(some 10), none, .mv (.t 8), [], (.new [])⟩,
   ⟨(some 5), none, .mv (.t 10), [], (.new [])⟩])
 (.seq (.reg [⟨(some 11), none, .mv (.t 1), [], (.new [])⟩,
   ⟨(some 12), none, .mv (.t 0), [], (.new [])⟩,
   ⟨(some 13), none, .mv (.t 5), [], (.new [])⟩,
   ⟨(some 14), none, .indexA 1 (.t 12) (.t 13), [], (.new [])⟩,
   ⟨(some 15), none, .load none (.t 14), [], (.new [])⟩,
   ⟨(some 16), none, .bin .eql (.t 11) (.t 15), [], (.new [])⟩])
 (.cond (.t 16)
 (.seq (.reg [⟨(some 17), none, .mv (.t 5), [], (.new [])⟩,
   ⟨(some 4), none, .mv (.t 17), [], (.new [])⟩])
 .ret)
 .skip))))
 (.reg [⟨(some 18), none, .bin .add (.t 8) (kI 1), [], (.new [])⟩,
   ⟨(some 8), none, .mv (.t 18), [], (.new [])⟩]))))))))
 (.seq (.reg [⟨(some 4), none, .mv (kI (-1)), [], (.new [])⟩])
 .ret)))⟩
theorem a64_ok : afn Try.prog 64 = some a64.er := by kernel_rfl
theorem F64_ok {x0 : (List ByteArray)} {x1 : ByteArray} {r : Int} (h : F64 x0 x1 = some r) : CallD Try.prog 64 [.c (.d (.sl (x0.map eS))), .c (.d (.v (.string x1)))] [] (tupV [.c (.d (.v (.int .i64 r)))]) [] := by
  refine callS a64_ok (by simp [a64]) ?_
  rw [F64] at h
  simp only [a64, VW.down, Nat.reduceEqDiff, reduceCtorEq, Nat.reduceAdd, Nat.reduceLeDiff, Nat.reduceLT, Nat.reduceBEq, Nat.reduceSub, EE.down]
  obtain ⟨o1, ho, h⟩ := Option.bind_eq_some_iff.1 h
  refine cutS (fun s => ∃ po1, o1 = Sum.inr po1 ∧ s = ⟨[], []⟩) ?_ ?_
  · have h0o1 := h
    have h := ho
    clear ho
    obtain ⟨_, hk, h⟩ := Option.bind_eq_some_iff.1 h
    have hk := ck_some hk
    simp only [VW.down, Nat.reduceEqDiff, reduceCtorEq, Nat.reduceAdd, Nat.reduceLeDiff, Nat.reduceLT, Nat.reduceBEq, Nat.reduceSub, EE.down]
    refine bL (fun j s => ∃ (o1_0 : Nat), (o1_0 ≤ x0.length ∧ j = x0.length - o1_0) ∧ s = ⟨[(0, .one (.c (.d (.sl (x0.map eS))))), (1, .one (.c (.d (.v (.string x1))))), (7, .one (.c (.d (.v (.int .i64 ((x0.length : Int))))))), (8, .one (.c (.d (.v (.int .i64 ((o1_0 : Int)))))))], []⟩ ∧ F64_l1 x1 (x0.drop o1_0) o1_0 = some o1) (x0.length - 0) [] ⟨0, ⟨hk.1, rfl⟩, rfl, h⟩ ?_
    rintro _ _ ⟨o1_0, ⟨hi, rfl⟩, rfl, h⟩
    simp only [VW.down, Nat.reduceEqDiff, reduceCtorEq, Nat.reduceAdd, Nat.reduceLeDiff, Nat.reduceLT, Nat.reduceBEq, Nat.reduceSub, EE.down]
    refine condS (fun c2 => ?_) (fun c2 => ?_)
    · obtain ⟨xo1, hxo1, hd⟩ := countY c2
      rw [hd, F64_l1] at h
      simp only [VW.down, Nat.reduceEqDiff, reduceCtorEq, Nat.reduceAdd, Nat.reduceLeDiff, Nat.reduceLT, Nat.reduceBEq, Nat.reduceSub, EE.down]
      refine t_idxF (enc := eS) (xs := x0) rfl rfl hxo1 rfl ?_
      simp only [VW.down, Nat.reduceEqDiff, reduceCtorEq, Nat.reduceAdd, Nat.reduceLeDiff, Nat.reduceLT, Nat.reduceBEq, Nat.reduceSub, EE.down]
      refine condS (fun c3 => ?_) (fun c3 => ?_)
      · have h := (if_pos c3).symm.trans h
        simp only [VW.down, Nat.reduceEqDiff, reduceCtorEq, Nat.reduceAdd, Nat.reduceLeDiff, Nat.reduceLT, Nat.reduceBEq, Nat.reduceSub, EE.down]
        obtain ⟨fh0o1, hfh0o1, rfl⟩ := Option.map_eq_some_iff.1 h
        have h := hfh0o1.trans h0o1
        obtain rfl := Option.some.inj h
        exact eF []
      · have h := (if_neg c3).symm.trans h
        simp only [VW.down, Nat.reduceEqDiff, reduceCtorEq, Nat.reduceAdd, Nat.reduceLeDiff, Nat.reduceLT, Nat.reduceBEq, Nat.reduceSub, EE.down]
        rw [wrapN (by omega)]
        exact eL' (x0.length - (o1_0 + 1)) [] ⟨o1_0 + 1, ⟨by omega, rfl⟩, rfl, h⟩ (by omega)
    · rw [countN c2, F64_l1] at h
      simp only [VW.down, Nat.reduceEqDiff, reduceCtorEq, Nat.reduceAdd, Nat.reduceLeDiff, Nat.reduceLT, Nat.reduceBEq, Nat.reduceSub, EE.down]
      obtain rfl := Option.some.inj h
      exact eM [] ⟨_, rfl, rfl⟩
  · rintro _ ⟨po1, rfl, rfl⟩
    clear ho
    dsimp only at h
    simp only [VW.down, Nat.reduceEqDiff, reduceCtorEq, Nat.reduceAdd, Nat.reduceLeDiff, Nat.reduceLT, Nat.reduceBEq, Nat.reduceSub, EE.down]
    obtain rfl := Option.some.inj h
    exact eF []

/- slices.Contains[[]string,string] -/
def F36 (x0 : (List ByteArray)) (x1 : ByteArray) : Option (Bool) := (F64 x0 x1).bind fun t1 => some (decide (0 ≤ t1))
def a36 : AFn := ⟨9, [(.tmp 4)],
 (.seq (.reg [⟨(some 4), none, .mv (kB false), [], (.new [])⟩])
 (.seq (.reg [⟨(some 5), none, .mv (.t 0), [], (.new [])⟩,
   ⟨(some 6), none, .mv (.t 1), [], (.new [])⟩,
   ⟨(some 7), none, .call 64 [(.t 5), (.t 6)], [], (.new [])⟩,
   ⟨(some 8), none, .bin .geq (.t 7) (kI 0), [], (.new [])⟩,
   ⟨(some 4), none, .mv (.t 8), [], (.new [])⟩])
 .ret))⟩
theorem a36_ok : afn Try.prog 36 = some a36.er := by kernel_rfl
theorem F36_ok {x0 : (List ByteArray)} {x1 : ByteArray} {r : Bool} (h : F36 x0 x1 = some r) : CallD Try.prog 36 [.c (.d (.sl (x0.map eS))), .c (.d (.v (.string x1)))] [] (tupV [.c (.d (.v (.bool r)))]) [] := by
  refine callS a36_ok (by simp [a36]) ?_
  rw [F36] at h
  simp only [a36, VW.down, Nat.reduceEqDiff, reduceCtorEq, Nat.reduceAdd, Nat.reduceLeDiff, Nat.reduceLT, Nat.reduceBEq, Nat.reduceSub, EE.down]
  obtain ⟨t1, ht1, h⟩ := Option.bind_eq_some_iff.1 h
  refine callX_n [] (F64_ok ht1) ?_ ?_ ?_ ?_ ?_ ?_
  · first | rfl | simp [nrmA, nrmC, nrm, A1.ren, C.ren, rn, List.length_set]
  · simp [liveAll, A1.live, C.live]
  · rfl
  · decide
  · exact trivial
  simp only [VW.down, Nat.reduceEqDiff, reduceCtorEq, Nat.reduceAdd, Nat.reduceLeDiff, Nat.reduceLT, Nat.reduceBEq, Nat.reduceSub, EE.down]
  obtain rfl := Option.some.inj h
  exact eF []

/- strings.Compare's own -/
noncomputable def fn78 : Func := (Try.prog.funcs[78]?).getD default
theorem fn78_ok : Try.prog.funcs[78]? = some fn78 := by kernel_rfl
theorem F78_ok {a b : ByteArray} {r : Int} (h : cmpS a b = some r) : CallD Try.prog 78 [.c (.d (.v (.string a))), .c (.d (.v (.string b)))] [] (tupV [.c (.d (.v (.int .i64 r)))]) [] := L_cmp fn78_ok (by kernel_rfl) (by kernel_rfl) (by kernel_rfl) (by kernel_rfl) h

/- internal/bytealg.CompareString -/
def F72 (x0 : ByteArray) (x1 : ByteArray) : Option (Int) := (cmpS x0 x1).bind fun t1 => some t1
def a72 : AFn := ⟨8, [(.tmp 4)],
 (.seq (.reg [⟨(some 4), none, .mv (kI 0), [], (.new [])⟩])
 (.seq (.reg [⟨(some 5), none, .mv (.t 0), [], (.new [])⟩,
   ⟨(some 6), none, .mv (.t 1), [], (.new [])⟩,
   ⟨(some 7), none, .call 78 [(.t 5), (.t 6)], [], (.new [])⟩,
   ⟨(some 4), none, .mv (.t 7), [], (.new [])⟩])
 .ret))⟩
theorem a72_ok : afn Try.prog 72 = some a72.er := by kernel_rfl
theorem F72_ok {x0 : ByteArray} {x1 : ByteArray} {r : Int} (h : F72 x0 x1 = some r) : CallD Try.prog 72 [.c (.d (.v (.string x0))), .c (.d (.v (.string x1)))] [] (tupV [.c (.d (.v (.int .i64 r)))]) [] := by
  refine callS a72_ok (by simp [a72]) ?_
  rw [F72] at h
  simp only [a72, VW.down, Nat.reduceEqDiff, reduceCtorEq, Nat.reduceAdd, Nat.reduceLeDiff, Nat.reduceLT, Nat.reduceBEq, Nat.reduceSub, EE.down]
  obtain ⟨t1, ht1, h⟩ := Option.bind_eq_some_iff.1 h
  refine callX_n [] (F78_ok ht1) ?_ ?_ ?_ ?_ ?_ ?_
  · first | rfl | simp [nrmA, nrmC, nrm, A1.ren, C.ren, rn, List.length_set]
  · simp [liveAll, A1.live, C.live]
  · rfl
  · decide
  · exact trivial
  simp only [VW.down, Nat.reduceEqDiff, reduceCtorEq, Nat.reduceAdd, Nat.reduceLeDiff, Nat.reduceLT, Nat.reduceBEq, Nat.reduceSub, EE.down]
  obtain rfl := Option.some.inj h
  exact eF []

/- strings.Compare -/
def F61 (x0 : ByteArray) (x1 : ByteArray) : Option (Int) := (F72 x0 x1).bind fun t1 => some t1
def a61 : AFn := ⟨8, [(.tmp 4)],
 (.seq (.reg [⟨(some 4), none, .mv (kI 0), [], (.new [])⟩])
 (.seq (.reg [⟨(some 5), none, .mv (.t 0), [], (.new [])⟩,
   ⟨(some 6), none, .mv (.t 1), [], (.new [])⟩,
   ⟨(some 7), none, .call 72 [(.t 5), (.t 6)], [], (.new [])⟩,
   ⟨(some 4), none, .mv (.t 7), [], (.new [])⟩])
 .ret))⟩
theorem a61_ok : afn Try.prog 61 = some a61.er := by kernel_rfl
theorem F61_ok {x0 : ByteArray} {x1 : ByteArray} {r : Int} (h : F61 x0 x1 = some r) : CallD Try.prog 61 [.c (.d (.v (.string x0))), .c (.d (.v (.string x1)))] [] (tupV [.c (.d (.v (.int .i64 r)))]) [] := by
  refine callS a61_ok (by simp [a61]) ?_
  rw [F61] at h
  simp only [a61, VW.down, Nat.reduceEqDiff, reduceCtorEq, Nat.reduceAdd, Nat.reduceLeDiff, Nat.reduceLT, Nat.reduceBEq, Nat.reduceSub, EE.down]
  obtain ⟨t1, ht1, h⟩ := Option.bind_eq_some_iff.1 h
  refine callX_n [] (F72_ok ht1) ?_ ?_ ?_ ?_ ?_ ?_
  · first | rfl | simp [nrmA, nrmC, nrm, A1.ren, C.ren, rn, List.length_set]
  · simp [liveAll, A1.live, C.live]
  · rfl
  · decide
  · exact trivial
  simp only [VW.down, Nat.reduceEqDiff, reduceCtorEq, Nat.reduceAdd, Nat.reduceLeDiff, Nat.reduceLT, Nat.reduceBEq, Nat.reduceSub, EE.down]
  obtain rfl := Option.some.inj h
  exact eF []

/- slices.BinarySearchFunc[[]string,string,string] -/
def F62_l1 (x0 : (List ByteArray)) (x1 : ByteArray) : Nat → Int → Int → Option (Int)
  | 0, _, _ => none
  | k + 1, o1_0, o1_1 => (if o1_0 < o1_1 then (rdI x0 ((IntKind.i64.wrap ((shrV .u64 ((IntKind.u64.wrap ((IntKind.i64.wrap (o1_0 + o1_1))))) 1))))).bind fun y3 => (F61 y3 x1).bind fun t4 => (if t4 < 0 then F62_l1 x0 x1 k ((IntKind.i64.wrap (((IntKind.i64.wrap ((shrV .u64 ((IntKind.u64.wrap ((IntKind.i64.wrap (o1_0 + o1_1))))) 1)))) + 1))) o1_1 else F62_l1 x0 x1 k o1_0 ((IntKind.i64.wrap ((shrV .u64 ((IntKind.u64.wrap ((IntKind.i64.wrap (o1_0 + o1_1))))) 1))))) else some o1_0)
def F62 (x0 : (List ByteArray)) (x1 : ByteArray) : Option (Int × Bool) := ((F62_l1 x0 x1 1099511627776 0 ((x0.length : Int))).bind fun o1 => (((if o1 < (x0.length : Int) then (rdI x0 o1).bind fun y8 => (F61 y8 x1).bind fun t9 => some (decide (t9 = 0)) else some false)).bind fun o6 => some ((o1, o6))))
def a62 : AFn := ⟨49, [(.tmp 6), (.tmp 7)],
 (.seq (.reg [⟨(some 6), none, .mv (kI 0), [], (.new [])⟩,
   ⟨(some 7), none, .mv (kB false), [], (.new [])⟩])
 (.seq (.reg [⟨(some 12), none, .mv (.t 0), [], (.new [])⟩,
   ⟨(some 13), none, .len (.t 12), [], (.new [])⟩,
   ⟨(some 8), none, .mv (.t 13), [], (.new [])⟩])
 (.seq (.reg [⟨(some 14), none, .mv (.t 8), [], (.new [])⟩,
   ⟨(some 9), none, .mv (kI 0), [], (.new [])⟩,
   ⟨(some 10), none, .mv (.t 14), [], (.new [])⟩])
 (.seq (.sem (.block 0 (.loop (.seq (.seq (.reg [⟨(some 15), none, .mv (.t 9), [], (.new [])⟩,
   ⟨(some 16), none, .mv (.t 10), [], (.new [])⟩,
   ⟨(some 17), none, .bin .lss (.t 15) (.t 16), [], (.new [])⟩])
 (.cond (.t 17)
 .skip
 (.exit 0)))
 (.block 1 (.seq (.reg [⟨(some 18), none, .mv (.t 9), [], (.new [])⟩,
   ⟨(some 19), none, .mv (.t 10), [], (.new [])⟩,
   ⟨(some 20), none, .bin .add (.t 18) (.t 19), [], (.new [])⟩,
   ⟨(some 21), none, .conv .u64 (.t 20), [], (.new [])⟩,
   ⟨(some 22), none, .bin .shr (.t 21) (.k (.c (.d (.v (.int .u64 1))))), [], (.new [])⟩,
   ⟨(some 23), none, .conv .i64 (.t 22), [], (.new [])⟩,
   ⟨(some 11), none, .mv (.t 23), [], (.new [])⟩])
 (.seq (.reg [⟨(some 24), none, .mv (.t 2), [], (.new [])⟩,
   ⟨(some 25), none, .mv (.t 0), [], (.new [])⟩,
   ⟨(some 26), none, .mv (.t 11), [], (.new [])⟩,
   ⟨(some 27), none, .indexA 1 (.t 25) (.t 26), [], (.new [])⟩,
   ⟨(some 28), none, .load none (.t 27), [], (.new [])⟩,
   ⟨(some 29), none, .mv (.t 1), [], (.new [])⟩,
   ⟨(some 30), none, .callv (.t 24) [(.t 28), (.t 29)], [], (.new [])⟩,
   ⟨(some 31), none, .bin .lss (.t 30) (kI 0), [], (.new [])⟩])
 (.cond (.t 31)
 (.reg [⟨(some 32), none, .mv (.t 11), [], (.new [])⟩,
   ⟨(some 33), none, .bin .add (.t 32) (kI 1), [], (.new [])⟩,
   ⟨(some 9), none, .mv (.t 33), [], (.new [])⟩])
 (.reg [⟨(some 34), none, .mv (.t 11), [], (.new [])⟩,
   ⟨(some 10), none, .mv (.t 34), [], (.new [])⟩])))))))))
 (.seq (.sem (.reg [⟨(some 35), none, .mv (.t 9), [], (.new [])⟩,
   ⟨(some 36), none, .mv (.t 9), [], (.new [])⟩,
   ⟨(some 37), none, .mv (.t 8), [], (.new [])⟩,
   ⟨(some 38), none, .bin .lss (.t 36) (.t 37), [], (.new [])⟩,
   ⟨(some 39), none, .mv (.t 38), [], (.new [])⟩,
   ⟨(some 40), (some (39, true)), .mv (.t 2), [], (.new [])⟩,
   ⟨(some 41), (some (39, true)), .mv (.t 0), [], (.new [])⟩,
   ⟨(some 42), (some (39, true)), .mv (.t 9), [], (.new [])⟩,
   ⟨(some 43), (some (39, true)), .indexA 1 (.t 41) (.t 42), [], (.new [])⟩,
   ⟨(some 44), (some (39, true)), .load none (.t 43), [], (.new [])⟩,
   ⟨(some 45), (some (39, true)), .mv (.t 1), [], (.new [])⟩,
   ⟨(some 46), (some (39, true)), .callv (.t 40) [(.t 44), (.t 45)], [], (.new [])⟩,
   ⟨(some 47), (some (39, true)), .bin .eql (.t 46) (kI 0), [], (.new [])⟩,
   ⟨(some 48), none, .pick (.t 39) (.t 47) (kB false), [], (.new [])⟩,
   ⟨(some 6), none, .mv (.t 35), [], (.new [])⟩,
   ⟨(some 7), none, .mv (.t 48), [], (.new [])⟩]))
 .ret)))))⟩
theorem a62_ok : afn Try.prog 62 = some a62.er := by kernel_rfl
theorem F62_ok {x0 : (List ByteArray)} {x1 : ByteArray} {r : Int × Bool} (h : F62 x0 x1 = some r) : CallD Try.prog 62 [.c (.d (.sl (x0.map eS))), .c (.d (.v (.string x1))), .c (.fn 61 [])] [] (tupV [.c (.d (.v (.int .i64 r.1))), .c (.d (.v (.bool r.2)))]) [] := by
  refine callS a62_ok (by simp [a62]) ?_
  rw [F62] at h
  simp only [a62, VW.down, Nat.reduceEqDiff, reduceCtorEq, Nat.reduceAdd, Nat.reduceLeDiff, Nat.reduceLT, Nat.reduceBEq, Nat.reduceSub, EE.down]
  obtain ⟨o1, ho, h⟩ := Option.bind_eq_some_iff.1 h
  refine cutS (fun s => s = ⟨[(0, .one (.c (.d (.sl (x0.map eS))))), (1, .one (.c (.d (.v (.string x1))))), (2, .one (.c (.fn 61 []))), (8, .one (.c (.d (.v (.int .i64 ((x0.length : Int))))))), (9, .one (.c (.d (.v (.int .i64 o1)))))], []⟩) ?_ ?_
  · have h := ho
    clear ho
    simp only [VW.down, Nat.reduceEqDiff, reduceCtorEq, Nat.reduceAdd, Nat.reduceLeDiff, Nat.reduceLT, Nat.reduceBEq, Nat.reduceSub, EE.down]
    refine bL (fun j s => ∃ (o1_0 : Int) (o1_1 : Int), s = ⟨[(0, .one (.c (.d (.sl (x0.map eS))))), (1, .one (.c (.d (.v (.string x1))))), (2, .one (.c (.fn 61 []))), (8, .one (.c (.d (.v (.int .i64 ((x0.length : Int))))))), (9, .one (.c (.d (.v (.int .i64 o1_0))))), (10, .one (.c (.d (.v (.int .i64 o1_1)))))], []⟩ ∧ F62_l1 x0 x1 j o1_0 o1_1 = some o1) 1099511627776 [] ⟨0, (x0.length : Int), rfl, h⟩ ?_
    rintro j _ ⟨o1_0, o1_1, rfl, h⟩
    cases j with
    | zero => cases (show (none : Option _) = some _ from h)
    | succ j =>
      rw [F62_l1] at h
      simp only [VW.down, Nat.reduceEqDiff, reduceCtorEq, Nat.reduceAdd, Nat.reduceLeDiff, Nat.reduceLT, Nat.reduceBEq, Nat.reduceSub, EE.down]
      refine condS (fun c2 => ?_) (fun c2 => ?_)
      · have h := (if_pos c2).symm.trans h
        simp only [VW.down, Nat.reduceEqDiff, reduceCtorEq, Nat.reduceAdd, Nat.reduceLeDiff, Nat.reduceLT, Nat.reduceBEq, Nat.reduceSub, EE.down]
        refine ⟨by decide, ?_⟩
        try simp only [VW.down, Nat.reduceEqDiff, reduceCtorEq, Nat.reduceAdd, Nat.reduceLeDiff, Nat.reduceLT, Nat.reduceBEq, Nat.reduceSub, EE.down]
        obtain ⟨y3, hy3, h⟩ := Option.bind_eq_some_iff.1 h
        refine t_idxF (enc := eS) (xs := x0) rfl rfl hy3 rfl ?_
        simp only [VW.down, Nat.reduceEqDiff, reduceCtorEq, Nat.reduceAdd, Nat.reduceLeDiff, Nat.reduceLT, Nat.reduceBEq, Nat.reduceSub, EE.down]
        obtain ⟨t4, ht4, h⟩ := Option.bind_eq_some_iff.1 h
        refine callX_n [] (F61_ok ht4) ?_ ?_ ?_ ?_ ?_ ?_
        · first | rfl | simp [nrmA, nrmC, nrm, A1.ren, C.ren, rn, List.length_set]
        · simp [liveAll, A1.live, C.live]
        · rfl
        · decide
        · exact trivial
        simp only [VW.down, Nat.reduceEqDiff, reduceCtorEq, Nat.reduceAdd, Nat.reduceLeDiff, Nat.reduceLT, Nat.reduceBEq, Nat.reduceSub, EE.down]
        refine condS (fun c5 => ?_) (fun c5 => ?_)
        · have h := (if_pos c5).symm.trans h
          simp only [VW.down, Nat.reduceEqDiff, reduceCtorEq, Nat.reduceAdd, Nat.reduceLeDiff, Nat.reduceLT, Nat.reduceBEq, Nat.reduceSub, EE.down]
          exact eL' j [] ⟨(IntKind.i64.wrap (((IntKind.i64.wrap ((shrV .u64 ((IntKind.u64.wrap ((IntKind.i64.wrap (o1_0 + o1_1))))) 1)))) + 1)), o1_1, rfl, h⟩ (Nat.lt_succ_self _)
        · have h := (if_neg c5).symm.trans h
          simp only [VW.down, Nat.reduceEqDiff, reduceCtorEq, Nat.reduceAdd, Nat.reduceLeDiff, Nat.reduceLT, Nat.reduceBEq, Nat.reduceSub, EE.down]
          exact eL' j [] ⟨o1_0, (IntKind.i64.wrap ((shrV .u64 ((IntKind.u64.wrap ((IntKind.i64.wrap (o1_0 + o1_1))))) 1))), rfl, h⟩ (Nat.lt_succ_self _)
      · have h := (if_neg c2).symm.trans h
        simp only [VW.down, Nat.reduceEqDiff, reduceCtorEq, Nat.reduceAdd, Nat.reduceLeDiff, Nat.reduceLT, Nat.reduceBEq, Nat.reduceSub, EE.down]
        obtain rfl := Option.some.inj h
        exact eM [] rfl
  · rintro _ rfl
    clear ho
    simp only [VW.down, Nat.reduceEqDiff, reduceCtorEq, Nat.reduceAdd, Nat.reduceLeDiff, Nat.reduceLT, Nat.reduceBEq, Nat.reduceSub, EE.down]
    obtain ⟨o6, ho, h⟩ := Option.bind_eq_some_iff.1 h
    refine cutS (fun s => s = ⟨[(6, .one (.c (.d (.v (.int .i64 o1))))), (7, .one (.c (.d (.v (.bool o6)))))], []⟩) ?_ ?_
    · have h := ho
      clear ho
      simp only [VW.down, Nat.reduceEqDiff, reduceCtorEq, Nat.reduceAdd, Nat.reduceLeDiff, Nat.reduceLT, Nat.reduceBEq, Nat.reduceSub, EE.down]
      refine guardS (fun g7 => ?_) (fun g7 => ?_)
      · have h := (if_pos g7).symm.trans h
        simp only [VW.down, Nat.reduceEqDiff, reduceCtorEq, Nat.reduceAdd, Nat.reduceLeDiff, Nat.reduceLT, Nat.reduceBEq, Nat.reduceSub, EE.down]
        obtain ⟨y8, hy8, h⟩ := Option.bind_eq_some_iff.1 h
        refine t_idxF (enc := eS) (xs := x0) rfl rfl hy8 rfl ?_
        simp only [VW.down, Nat.reduceEqDiff, reduceCtorEq, Nat.reduceAdd, Nat.reduceLeDiff, Nat.reduceLT, Nat.reduceBEq, Nat.reduceSub, EE.down]
        obtain ⟨t9, ht9, h⟩ := Option.bind_eq_some_iff.1 h
        refine callX_n [] (F61_ok ht9) ?_ ?_ ?_ ?_ ?_ ?_
        · first | rfl | simp [nrmA, nrmC, nrm, A1.ren, C.ren, rn, List.length_set]
        · simp [liveAll, A1.live, C.live]
        · rfl
        · decide
        · exact trivial
        simp only [VW.down, Nat.reduceEqDiff, reduceCtorEq, Nat.reduceAdd, Nat.reduceLeDiff, Nat.reduceLT, Nat.reduceBEq, Nat.reduceSub, EE.down]
        obtain rfl := Option.some.inj h
        exact eM [] rfl
      · have h := (if_neg g7).symm.trans h
        simp only [VW.down, Nat.reduceEqDiff, reduceCtorEq, Nat.reduceAdd, Nat.reduceLeDiff, Nat.reduceLT, Nat.reduceBEq, Nat.reduceSub, EE.down]
        obtain rfl := Option.some.inj h
        exact eM [] rfl
    · rintro _ rfl
      clear ho
      simp only [VW.down, Nat.reduceEqDiff, reduceCtorEq, Nat.reduceAdd, Nat.reduceLeDiff, Nat.reduceLT, Nat.reduceBEq, Nat.reduceSub, EE.down]
      obtain rfl := Option.some.inj h
      exact eF []

/- (*orchestrator/workqueue.sorted[string]).find -/
def F34 (x1 : ByteArray) (b0_0 : (List ByteArray)) : Option (Int × Bool) := (F62 b0_0 x1).bind fun t1 => some ((t1.1, t1.2))
def a34 : AFn := ⟨18, [(.tmp 4), (.tmp 5)],
 (.seq (.reg [⟨(some 4), none, .mv (kI 0), [], (.new [])⟩,
   ⟨(some 5), none, .mv (kB false), [], (.new [])⟩])
 (.seq (.regd [⟨(some 6), none, .mv (.t 0), [], (.new [])⟩,
   ⟨(some 7), none, .fieldA 0 (.t 6), [0], (.new [])⟩,
   ⟨(some 8), none, .fieldA 0 (.t 7), [0, 1], (.new [])⟩,
   ⟨(some 9), none, .load none (.t 8), [0, 1, 2], (.new [])⟩,
   ⟨(some 10), none, .mv (.t 1), [], (.new [])⟩,
   ⟨(some 11), none, .mv (.t 0), [], (.new [])⟩,
   ⟨(some 12), none, .fieldA 0 (.t 11), [5], (.new [])⟩,
   ⟨(some 13), none, .fieldA 1 (.t 12), [5, 6], (.new [])⟩,
   ⟨(some 14), none, .load none (.t 13), [5, 6, 7], (.new [])⟩,
   ⟨(some 15), none, .call 62 [(.t 9), (.t 10), (.t 14)], [0, 1, 2, 3, 4, 5, 6, 7, 8], (.lone [])⟩,
   ⟨(some 16), none, .ext (.t 15) 0, [0, 1, 2, 3, 4, 5, 6, 7, 8, 9], (.new [])⟩,
   ⟨(some 17), none, .ext (.t 15) 1, [0, 1, 2, 3, 4, 5, 6, 7, 8, 9], (.new [])⟩,
   ⟨(some 4), none, .mv (.t 16), [0, 1, 2, 3, 4, 5, 6, 7, 8, 9, 10, 11], (.new [])⟩,
   ⟨(some 5), none, .mv (.t 17), [0, 1, 2, 3, 4, 5, 6, 7, 8, 9, 10, 11, 12], (.new [])⟩])
 .ret))⟩
theorem a34_ok : afn Try.prog 34 = some a34.er := by kernel_rfl
theorem F34_ok {x1 : ByteArray} {b0_0 : (List ByteArray)} {r : Int × Bool} {e1 : Nat} (h : F34 x1 b0_0 = some r) : CallD Try.prog 34 [.c (.pt 0 0), .c (.d (.v (.string x1)))] [some (.box [.own 1 e1 0 (b0_0.length) none, .fn 61 []]), some (.arr e1 1 (b0_0.map eS))] (tupV [.c (.d (.v (.int .i64 r.1))), .c (.d (.v (.bool r.2)))]) [some (.box [.own 1 e1 0 (b0_0.length) none, .fn 61 []]), some (.arr e1 1 (b0_0.map eS))] := by
  refine callS a34_ok (by simp [a34]) ?_
  rw [F34] at h
  simp only [a34, VW.down, Nat.reduceEqDiff, reduceCtorEq, Nat.reduceAdd, Nat.reduceLeDiff, Nat.reduceLT, Nat.reduceBEq, Nat.reduceSub, EE.down]
  obtain ⟨t1, ht1, h⟩ := Option.bind_eq_some_iff.1 h
  refine callX_bor (F62_ok ht1) (by simp only [borAs, bors, hp, List.getElem?_cons_zero, List.getElem?_cons_succ, Option.join_some, List.drop_zero, bor_full', true_and, Nat.zero_add, List.length_map, Nat.le_refl, nrm, List.length_cons, List.length_nil, Nat.reduceAdd, Nat.reduceLeDiff, List.take_succ_cons, List.take_zero, List.take_nil, List.map_cons, List.map_nil, List.length_set, EE.down]) rfl ?_
  simp only [VW.down, Nat.reduceEqDiff, reduceCtorEq, Nat.reduceAdd, Nat.reduceLeDiff, Nat.reduceLT, Nat.reduceBEq, Nat.reduceSub, EE.down]
  obtain rfl := Option.some.inj h
  exact eF [some 0, some 1]

/- slices.overlaps[string] -/
noncomputable def fn73 : Func := (Try.prog.funcs[73]?).getD default
theorem fn73_ok : Try.prog.funcs[73]? = some fn73 := by kernel_rfl
theorem ov73 (e0 e1 o0 o1 l0 l1 : Nat) (c0 c1 : Option Nat) (r0 r1 : List (List D)) :
    CallD Try.prog 73 [.c (.own 0 e0 o0 l0 c0), .c (.own 1 e1 o1 l1 c1)] [some (.arr e0 1 r0), some (.arr e1 1 r1)] (.one (aB false)) [some (.arr e0 1 r0), some (.arr e1 1 r1)] :=
  ovl_callD (tS := 25) (tT := 4) (e := 9) (ps := #[25, 25]) (rs := #[4]) fn73_ok (by kernel_rfl) (by kernel_rfl) (by kernel_rfl) (by kernel_rfl) rfl rfl (by kernel_rfl) (by kernel_rfl) e0 e1 o0 o1 l0 l1 c0 c1 r0 r1

/- slices.Insert[[]string,string] -/
theorem a63_ok : afn Try.prog 63 = some (insertA 1 16 [.v (.string ⟨#[]⟩)] 73 74) := by kernel_rfl
theorem F63_ok {x0 r : List ByteArray} {i : Int} {x : ByteArray} {e0 e1 : Nat} (h : insI x0 i x = some r) : CallD Try.prog 63 [.c (.own 0 e0 0 x0.length none), aI i, .c (.own 1 e1 0 [x].length none)] [some (.arr e0 1 (x0.map eS)), some (.arr e1 1 ([x].map eS))] (tupV [.c (.own 0 (e0 + 1) 0 r.length none)]) [some (.arr (e0 + 1) 1 (r.map eS)), some (.arr e1 1 ([x].map eS))] := L_insert a63_ok ov73 (fun _ => rfl) h

/- (*orchestrator/workqueue.sorted[string]).insert -/
def F35 (x1 : ByteArray) (b0_0 : (List ByteArray)) : Option ((List ByteArray)) := (F34 x1 b0_0).bind fun t1 => (if t1.2 = true then some b0_0 else (insI b0_0 t1.1 x1).bind fun t3 => some t3)
def a35 : AFn := ⟨26, [(.tmp 4)],
 (.seq (.reg [⟨(some 4), none, .mv kN, [], (.new [])⟩])
 (.seq (.reg [⟨(some 8), none, .mv (.t 0), [], (.new [])⟩,
   ⟨(some 9), none, .mv (.t 1), [], (.new [])⟩,
   ⟨(some 10), none, .call 34 [(.t 8), (.t 9)], [], (.new [])⟩,
   ⟨(some 7), none, .mv (.t 10), [], (.new [])⟩,
   ⟨(some 11), none, .ext (.t 7) 0, [], (.new [])⟩,
   ⟨(some 12), none, .ext (.t 7) 1, [], (.new [])⟩,
   ⟨(some 5), none, .mv (.t 11), [], (.new [])⟩,
   ⟨(some 6), none, .mv (.t 12), [], (.new [])⟩])
 (.seq (.seq (.reg [⟨(some 13), none, .mv (.t 6), [], (.new [])⟩])
 (.cond (.t 13)
 (.seq (.reg [⟨(some 14), none, .mv (.t 0), [], (.new [])⟩,
   ⟨(some 15), none, .fieldA 0 (.t 14), [], (.new [])⟩,
   ⟨(some 16), none, .fieldA 0 (.t 15), [], (.new [])⟩,
   ⟨(some 17), none, .load none (.t 16), [], (.new [])⟩,
   ⟨(some 4), none, .mv (.t 17), [], (.new [])⟩])
 .ret)
 .skip))
 (.seq (.reg [⟨(some 18), none, .mv (.t 0), [], (.new [])⟩,
   ⟨(some 19), none, .fieldA 0 (.t 18), [], (.new [])⟩,
   ⟨(some 20), none, .fieldA 0 (.t 19), [], (.new [])⟩,
   ⟨(some 21), none, .load none (.t 20), [], (.new [])⟩,
   ⟨(some 22), none, .mv (.t 5), [], (.new [])⟩,
   ⟨(some 23), none, .mv (.t 1), [], (.new [])⟩,
   ⟨(some 24), none, .bslice 1 [(.t 23)], [], (.new [])⟩,
   ⟨(some 25), none, .call 63 [(.t 21), (.t 22), (.t 24)], [], (.new [])⟩,
   ⟨(some 4), none, .mv (.t 25), [], (.new [])⟩])
 .ret))))⟩
theorem a35_ok : afn Try.prog 35 = some a35.er := by kernel_rfl
theorem F35_ok {x1 : ByteArray} {b0_0 : (List ByteArray)} {r : (List ByteArray)} {e1 : Nat} (h : F35 x1 b0_0 = some r) : CallD Try.prog 35 [.c (.pt 0 0), .c (.d (.v (.string x1)))] [some (.box [.own 1 e1 0 (b0_0.length) none, .fn 61 []]), some (.arr e1 1 (b0_0.map eS))] (tupV [.c (.own 1 (e1 + 2) 0 (r.length) none)]) [some (.box [.own 1 e1 0 0 (some 0), .fn 61 []]), some (.arr (e1 + 2) 1 (r.map eS))] := by
  refine callS a35_ok (by simp [a35]) ?_
  rw [F35] at h
  simp only [a35, VW.down, Nat.reduceEqDiff, reduceCtorEq, Nat.reduceAdd, Nat.reduceLeDiff, Nat.reduceLT, Nat.reduceBEq, Nat.reduceSub, EE.down]
  obtain ⟨t1, ht1, h⟩ := Option.bind_eq_some_iff.1 h
  refine callX_n [0, 1] (F34_ok (e1 := e1) ht1) ?_ ?_ ?_ ?_ ?_ ?_
  · first | rfl | simp [nrmA, nrmC, nrm, A1.ren, C.ren, rn, List.length_set]
  · simp [liveAll, A1.live, C.live, hp]
  · rfl
  · decide
  · exact ⟨⟨rfl, by simp [Blk.live, C.live, hp]⟩, ⟨⟨rfl, trivial⟩, trivial⟩⟩
  simp only [VW.down, Nat.reduceEqDiff, reduceCtorEq, Nat.reduceAdd, Nat.reduceLeDiff, Nat.reduceLT, Nat.reduceBEq, Nat.reduceSub, EE.down]
  refine condB (fun c2 => ?_) (fun c2 => ?_)
  · have h := (if_pos c2).symm.trans h
    simp only [VW.down, Nat.reduceEqDiff, reduceCtorEq, Nat.reduceAdd, Nat.reduceLeDiff, Nat.reduceLT, Nat.reduceBEq, Nat.reduceSub, EE.down]
    obtain rfl := Option.some.inj h
    exact eF [some 0, some 1]
  · have h := (if_neg c2).symm.trans h
    simp only [VW.down, Nat.reduceEqDiff, reduceCtorEq, Nat.reduceAdd, Nat.reduceLeDiff, Nat.reduceLT, Nat.reduceBEq, Nat.reduceSub, EE.down]
    refine t_bslice (enc := eS) (ys := [x1]) rfl rfl (by simp [A1.cells]) rfl ?_
    simp only [VW.down, Nat.reduceEqDiff, reduceCtorEq, Nat.reduceAdd, Nat.reduceLeDiff, Nat.reduceLT, Nat.reduceBEq, Nat.reduceSub, EE.down]
    obtain ⟨t3, ht3, h⟩ := Option.bind_eq_some_iff.1 h
    refine callX_n [1, 2] (F63_ok (e0 := e1) (e1 := 0) ht3) ?_ ?_ ?_ ?_ ?_ ?_
    · first | rfl | simp [nrmA, nrmC, nrm, A1.ren, C.ren, rn, List.length_set]
    · simp [liveAll, A1.live, C.live, hp]
    · rfl
    · decide
    · exact ⟨⟨rfl, trivial⟩, ⟨⟨rfl, trivial⟩, trivial⟩⟩
    simp only [VW.down, Nat.reduceEqDiff, reduceCtorEq, Nat.reduceAdd, Nat.reduceLeDiff, Nat.reduceLT, Nat.reduceBEq, Nat.reduceSub, EE.down]
    obtain rfl := Option.some.inj h
    exact eF [some 0, some 1]

/- orchestrator/workqueue.Add -/
def F15 (x0 : WorkQueue) (x1 : ByteArray) : Option ((List ByteArray) × (List ByteArray) × (List ByteArray) × (List WorkItem) × (List WorkItem)) := (F32 x0).bind fun t1 => (F33 t1.2.1).bind fun t2 => (F34 x1 t2).bind fun t3 => (if t3.2 = true then (F33 t1.2.2.1).bind fun t5 => (F35 x1 t5).bind fun t6 => some ((t1.1, t1.2.1, t6, t1.2.2.2.1, t1.2.2.2.2)) else (F36 t1.1 x1).bind fun t7 => (if (nb t7) = true then (apI t1.1 ([x1])).bind fun a9 => some ((a9, t1.2.1, t1.2.2.1, t1.2.2.2.1, t1.2.2.2.2)) else some ((t1.1, t1.2.1, t1.2.2.1, t1.2.2.2.1, t1.2.2.2.2))))
def a15 : AFn := ⟨36, [(.cell 4 (some 5))],
 (.seq (.reg [⟨(some 2), none, .box (.t 0), [], (.new [])⟩,
   ⟨(some 4), none, .zbox [.d (.v (.slice none 0 0)), .d (.v (.slice none 0 0)), .d (.v (.slice none 0 0)), .d (.v (.slice none 0 0)), .d (.v (.slice none 0 0))], [], (.new [])⟩])
 (.seq (.reg [⟨(some 7), none, .load (some 5) (.t 2), [], (.new [])⟩,
   ⟨(some 8), none, .call 32 [(.t 7)], [], (.new [])⟩,
   ⟨none, none, .store 5 (.t 2) (.t 8), [], (.new [])⟩])
 (.seq (.seq (.reg [⟨(some 10), none, .fieldA 1 (.t 2), [], (.new [])⟩,
   ⟨(some 11), none, .load none (.t 10), [], (.new [])⟩,
   ⟨(some 12), none, .call 33 [(.t 11)], [], (.new [])⟩,
   ⟨(some 13), none, .mv (.t 1), [], (.new [])⟩,
   ⟨(some 14), none, .call 34 [(.t 12), (.t 13)], [], (.new [])⟩,
   ⟨(some 9), none, .mv (.t 14), [], (.new [])⟩,
   ⟨(some 15), none, .ext (.t 9) 0, [], (.new [])⟩,
   ⟨(some 16), none, .ext (.t 9) 1, [], (.new [])⟩,
   ⟨(some 5), none, .mv (.t 15), [], (.new [])⟩,
   ⟨(some 6), none, .mv (.t 16), [], (.new [])⟩])
 (.seq (.reg [⟨(some 17), none, .mv (.t 6), [], (.new [])⟩])
 (.cond (.t 17)
 (.reg [⟨(some 18), none, .fieldA 2 (.t 2), [], (.new [])⟩,
   ⟨(some 19), none, .load none (.t 18), [], (.new [])⟩,
   ⟨(some 20), none, .call 33 [(.t 19)], [], (.new [])⟩,
   ⟨(some 21), none, .mv (.t 1), [], (.new [])⟩,
   ⟨(some 22), none, .call 35 [(.t 20), (.t 21)], [], (.new [])⟩,
   ⟨(some 23), none, .fieldA 2 (.t 2), [], (.new [])⟩,
   ⟨none, none, .store 1 (.t 23) (.t 22), [], (.new [])⟩])
 (.seq (.reg [⟨(some 24), none, .fieldA 0 (.t 2), [], (.new [])⟩,
   ⟨(some 25), none, .load none (.t 24), [], (.new [])⟩,
   ⟨(some 26), none, .mv (.t 1), [], (.new [])⟩,
   ⟨(some 27), none, .call 36 [(.t 25), (.t 26)], [], (.new [])⟩,
   ⟨(some 28), none, .not (.t 27), [], (.new [])⟩])
 (.cond (.t 28)
 (.reg [⟨(some 29), none, .fieldA 0 (.t 2), [], (.new [])⟩,
   ⟨(some 30), none, .load none (.t 29), [], (.new [])⟩,
   ⟨(some 31), none, .mv (.t 1), [], (.new [])⟩,
   ⟨(some 32), none, .bslice 1 [(.t 31)], [], (.new [])⟩,
   ⟨(some 33), none, .app 1 16 (.t 30) (.t 32), [], (.new [])⟩,
   ⟨(some 34), none, .fieldA 0 (.t 2), [], (.new [])⟩,
   ⟨none, none, .store 1 (.t 34) (.t 33), [], (.new [])⟩])
 .skip)))))
 (.seq (.reg [⟨(some 35), none, .load (some 5) (.t 2), [], (.new [])⟩,
   ⟨none, none, .store 5 (.t 4) (.t 35), [], (.lone [2])⟩])
 .ret))))⟩
theorem a15_ok : afn Try.prog 15 = some a15.er := by kernel_rfl
theorem F15_ok {x0 : WorkQueue} {x1 : ByteArray} {r : (List ByteArray) × (List ByteArray) × (List ByteArray) × (List WorkItem) × (List WorkItem)} (h : F15 x0 x1 = some r) : CallD Try.prog 15 [.agg [.d (.sl (x0.Ready.map eS)), .d (.sl (x0.Working.map eS)), .d (.sl (x0.Dirty.map eS)), .d (.sl (x0.Later.map eWorkItem)), .d (.sl (x0.Retries.map eWorkItem))], .c (.d (.v (.string x1)))] [] (tupV [.agg [.own 0 0 0 (r.1.length) none, .own 1 0 0 (r.2.1.length) none, .own 2 0 0 (r.2.2.1.length) none, .own 3 0 0 (r.2.2.2.1.length) none, .own 4 0 0 (r.2.2.2.2.length) none]]) [some (.arr 0 1 (r.1.map eS)), some (.arr 0 1 (r.2.1.map eS)), some (.arr 0 1 (r.2.2.1.map eS)), some (.arr 0 2 (r.2.2.2.1.map eWorkItem)), some (.arr 0 2 (r.2.2.2.2.map eWorkItem))] := by
  refine callS a15_ok (by simp [a15]) ?_
  rw [F15] at h
  simp only [a15, VW.down, Nat.reduceEqDiff, reduceCtorEq, Nat.reduceAdd, Nat.reduceLeDiff, Nat.reduceLT, Nat.reduceBEq, Nat.reduceSub, EE.down]
  obtain ⟨t1, ht1, h⟩ := Option.bind_eq_some_iff.1 h
  refine callX_n [] (F32_ok ht1) ?_ ?_ ?_ ?_ ?_ ?_
  · first | rfl | simp [nrmA, nrmC, nrm, A1.ren, C.ren, rn, List.length_set]
  · simp [liveAll, A1.live, C.live]
  · rfl
  · decide
  · exact trivial
  simp only [VW.down, Nat.reduceEqDiff, reduceCtorEq, Nat.reduceAdd, Nat.reduceLeDiff, Nat.reduceLT, Nat.reduceBEq, Nat.reduceSub, EE.down]
  obtain ⟨t2, ht2, h⟩ := Option.bind_eq_some_iff.1 h
  refine callX_borF (F33_ok ht2) (by simp only [borAs, bors, hp, List.getElem?_cons_zero, List.getElem?_cons_succ, Option.join_some, List.drop_zero, bor_full', true_and, Nat.zero_add, List.length_map, Nat.le_refl, nrm, List.length_cons, List.length_nil, Nat.reduceAdd, Nat.reduceLeDiff, List.take_succ_cons, List.take_zero, List.take_nil, List.map_cons, List.map_nil, List.length_set, EE.down]) rfl ⟨rfl, flat_rows (enc := eS) (fun _ => rfl) _, trivial⟩ ?_
  simp only [VW.down, Nat.reduceEqDiff, reduceCtorEq, Nat.reduceAdd, Nat.reduceLeDiff, Nat.reduceLT, Nat.reduceBEq, Nat.reduceSub, EE.down]
  obtain ⟨t3, ht3, h⟩ := Option.bind_eq_some_iff.1 h
  refine callX_n [7, 8] (F34_ok (e1 := 0) ht3) ?_ ?_ ?_ ?_ ?_ ?_
  · first | rfl | simp [nrmA, nrmC, nrm, A1.ren, C.ren, rn, List.length_set]
  · simp [liveAll, A1.live, C.live, hp]
  · rfl
  · decide
  · exact ⟨⟨rfl, by simp [Blk.live, C.live, hp]⟩, ⟨⟨rfl, trivial⟩, trivial⟩⟩
  simp only [VW.down, Nat.reduceEqDiff, reduceCtorEq, Nat.reduceAdd, Nat.reduceLeDiff, Nat.reduceLT, Nat.reduceBEq, Nat.reduceSub, EE.down]
  refine condB (fun c4 => ?_) (fun c4 => ?_)
  · have h := (if_pos c4).symm.trans h
    simp only [VW.down, Nat.reduceEqDiff, reduceCtorEq, Nat.reduceAdd, Nat.reduceLeDiff, Nat.reduceLT, Nat.reduceBEq, Nat.reduceSub, EE.down]
    obtain ⟨t5, ht5, h⟩ := Option.bind_eq_some_iff.1 h
    refine callX_borF (F33_ok ht5) (by simp only [borAs, bors, hp, List.getElem?_cons_zero, List.getElem?_cons_succ, Option.join_some, List.drop_zero, bor_full', true_and, Nat.zero_add, List.length_map, Nat.le_refl, nrm, List.length_cons, List.length_nil, Nat.reduceAdd, Nat.reduceLeDiff, List.take_succ_cons, List.take_zero, List.take_nil, List.map_cons, List.map_nil, List.length_set, EE.down]) rfl ⟨rfl, flat_rows (enc := eS) (fun _ => rfl) _, trivial⟩ ?_
    simp only [VW.down, Nat.reduceEqDiff, reduceCtorEq, Nat.reduceAdd, Nat.reduceLeDiff, Nat.reduceLT, Nat.reduceBEq, Nat.reduceSub, EE.down]
    obtain ⟨t6, ht6, h⟩ := Option.bind_eq_some_iff.1 h
    refine callX_n [9, 10] (F35_ok (e1 := 0) ht6) ?_ ?_ ?_ ?_ ?_ ?_
    · first | rfl | simp [nrmA, nrmC, nrm, A1.ren, C.ren, rn, List.length_set]
    · simp [liveAll, A1.live, C.live, hp]
    · rfl
    · decide
    · exact ⟨⟨rfl, by simp [Blk.live, C.live, hp]⟩, ⟨⟨rfl, trivial⟩, trivial⟩⟩
    simp only [VW.down, Nat.reduceEqDiff, reduceCtorEq, Nat.reduceAdd, Nat.reduceLeDiff, Nat.reduceLT, Nat.reduceBEq, Nat.reduceSub, EE.down]
    obtain rfl := Option.some.inj h
    exact eF [some 2, some 3, some 10, some 5, some 6]
  · have h := (if_neg c4).symm.trans h
    simp only [VW.down, Nat.reduceEqDiff, reduceCtorEq, Nat.reduceAdd, Nat.reduceLeDiff, Nat.reduceLT, Nat.reduceBEq, Nat.reduceSub, EE.down]
    obtain ⟨t7, ht7, h⟩ := Option.bind_eq_some_iff.1 h
    refine callX_bor (F36_ok ht7) (by simp only [borAs, bors, hp, List.getElem?_cons_zero, List.getElem?_cons_succ, Option.join_some, List.drop_zero, bor_full', true_and, Nat.zero_add, List.length_map, Nat.le_refl, nrm, List.length_cons, List.length_nil, Nat.reduceAdd, Nat.reduceLeDiff, List.take_succ_cons, List.take_zero, List.take_nil, List.map_cons, List.map_nil, List.length_set, EE.down]) rfl ?_
    simp only [VW.down, Nat.reduceEqDiff, reduceCtorEq, Nat.reduceAdd, Nat.reduceLeDiff, Nat.reduceLT, Nat.reduceBEq, Nat.reduceSub, EE.down]
    refine condB (fun c8 => ?_) (fun c8 => ?_)
    · have h := (if_pos c8).symm.trans h
      simp only [VW.down, Nat.reduceEqDiff, reduceCtorEq, Nat.reduceAdd, Nat.reduceLeDiff, Nat.reduceLT, Nat.reduceBEq, Nat.reduceSub, EE.down]
      refine t_bslice (enc := eS) (ys := [x1]) rfl rfl (by simp [A1.cells]) rfl ?_
      simp only [VW.down, Nat.reduceEqDiff, reduceCtorEq, Nat.reduceAdd, Nat.reduceLeDiff, Nat.reduceLT, Nat.reduceBEq, Nat.reduceSub, EE.down]
      obtain ⟨a9, ha9, h⟩ := Option.bind_eq_some_iff.1 h
      refine t_app (enc := eS) (xs := t1.1) rfl rfl (by first | rfl | simp only [List.length_set] | exact (clrL_len (slI_len (by assumption))).symm) rfl (rows_full (enc := eS) (by first | rfl | simp only [List.length_set] | exact (clrL_len (slI_len (by assumption))).symm) rfl) ha9 ?_
      simp only [VW.down, Nat.reduceEqDiff, reduceCtorEq, Nat.reduceAdd, Nat.reduceLeDiff, Nat.reduceLT, Nat.reduceBEq, Nat.reduceSub, EE.down]
      obtain rfl := Option.some.inj h
      exact eF [some 2, some 3, some 4, some 5, some 6]
    · have h := (if_neg c8).symm.trans h
      simp only [VW.down, Nat.reduceEqDiff, reduceCtorEq, Nat.reduceAdd, Nat.reduceLeDiff, Nat.reduceLT, Nat.reduceBEq, Nat.reduceSub, EE.down]
      obtain rfl := Option.some.inj h
      exact eF [some 2, some 3, some 4, some 5, some 6]

/- orchestrator/workqueue.Take -/
def F17 (x0 : WorkQueue) : Option ((List ByteArray) × (List ByteArray) × (List ByteArray) × (List WorkItem) × (List WorkItem) × ByteArray × Bool) := (F32 x0).bind fun t1 => (if (t1.1.length : Int) = 0 then some ((t1.1, t1.2.1, t1.2.2.1, t1.2.2.2.1, t1.2.2.2.2, (⟨#[]⟩ : ByteArray), false)) else (rdI t1.1 0).bind fun y3 => (slI t1.1 1 ((t1.1.length : Int))).bind fun s4 => (F33 t1.2.1).bind fun t5 => (F35 y3 t5).bind fun t6 => some ((s4, t6, t1.2.2.1, t1.2.2.2.1, t1.2.2.2.2, y3, true)))
def a17 : AFn := ⟨29, [(.cell 2 (some 5)), (.tmp 3), (.tmp 4)],
 (.seq (.reg [⟨(some 1), none, .box (.t 0), [], (.new [])⟩,
   ⟨(some 2), none, .zbox [.d (.v (.slice none 0 0)), .d (.v (.slice none 0 0)), .d (.v (.slice none 0 0)), .d (.v (.slice none 0 0)), .d (.v (.slice none 0 0))], [], (.new [])⟩,
   ⟨(some 3), none, .mv (kS ⟨#[]⟩), [], (.new [])⟩,
   ⟨(some 4), none, .mv (kB false), [], (.new [])⟩])
 (.seq (.reg [⟨(some 6), none, .load (some 5) (.t 1), [], (.new [])⟩,
   ⟨(some 7), none, .call 32 [(.t 6)], [], (.new [])⟩,
   ⟨none, none, .store 5 (.t 1) (.t 7), [], (.new [])⟩])
 (.seq (.seq (.reg [⟨(some 8), none, .fieldA 0 (.t 1), [], (.new [])⟩,
   ⟨(some 9), none, .load none (.t 8), [], (.new [])⟩,
   ⟨(some 10), none, .len (.t 9), [], (.new [])⟩,
   ⟨(some 11), none, .bin .eql (.t 10) (kI 0), [], (.new [])⟩])
 (.cond (.t 11)
 (.seq (.reg [⟨(some 12), none, .load (some 5) (.t 1), [], (.new [])⟩,
   ⟨none, none, .store 5 (.t 2) (.t 12), [], (.new [])⟩,
   ⟨(some 3), none, .mv (kS ⟨#[]⟩), [], (.new [])⟩,
   ⟨(some 4), none, .mv (kB false), [], (.new [])⟩])
 .ret)
 .skip))
 (.seq (.reg [⟨(some 13), none, .fieldA 0 (.t 1), [], (.new [])⟩,
   ⟨(some 14), none, .load none (.t 13), [], (.new [])⟩,
   ⟨(some 15), none, .indexA 1 (.t 14) (kI 0), [], (.new [])⟩,
   ⟨(some 16), none, .load none (.t 15), [], (.new [])⟩,
   ⟨(some 5), none, .mv (.t 16), [], (.new [])⟩])
 (.seq (.reg [⟨(some 17), none, .fieldA 0 (.t 1), [], (.new [])⟩,
   ⟨(some 18), none, .load none (.t 17), [], (.new [])⟩,
   ⟨(some 19), none, .slice 1 (.t 18) (some (kI 1)) none none, [], (.new [])⟩,
   ⟨(some 20), none, .fieldA 0 (.t 1), [], (.new [])⟩,
   ⟨none, none, .store 1 (.t 20) (.t 19), [], (.new [])⟩])
 (.seq (.reg [⟨(some 21), none, .fieldA 1 (.t 1), [], (.new [])⟩,
   ⟨(some 22), none, .load none (.t 21), [], (.new [])⟩,
   ⟨(some 23), none, .call 33 [(.t 22)], [], (.new [])⟩,
   ⟨(some 24), none, .mv (.t 5), [], (.new [])⟩,
   ⟨(some 25), none, .call 35 [(.t 23), (.t 24)], [], (.new [])⟩,
   ⟨(some 26), none, .fieldA 1 (.t 1), [], (.new [])⟩,
   ⟨none, none, .store 1 (.t 26) (.t 25), [], (.new [])⟩])
 (.seq (.reg [⟨(some 27), none, .load (some 5) (.t 1), [], (.new [])⟩,
   ⟨(some 28), none, .mv (.t 5), [], (.new [])⟩,
   ⟨none, none, .store 5 (.t 2) (.t 27), [], (.new [])⟩,
   ⟨(some 3), none, .mv (.t 28), [], (.new [])⟩,
   ⟨(some 4), none, .mv (kB true), [], (.new [])⟩])
 .ret)))))))⟩
theorem a17_ok : afn Try.prog 17 = some a17.er := by kernel_rfl
theorem F17_ok {x0 : WorkQueue} {r : (List ByteArray) × (List ByteArray) × (List ByteArray) × (List WorkItem) × (List WorkItem) × ByteArray × Bool} (h : F17 x0 = some r) : CallD Try.prog 17 [.agg [.d (.sl (x0.Ready.map eS)), .d (.sl (x0.Working.map eS)), .d (.sl (x0.Dirty.map eS)), .d (.sl (x0.Later.map eWorkItem)), .d (.sl (x0.Retries.map eWorkItem))]] [] (tupV [.agg [.d (.sl (r.1.map eS)), .own 0 0 0 (r.2.1.length) none, .own 1 0 0 (r.2.2.1.length) none, .own 2 0 0 (r.2.2.2.1.length) none, .own 3 0 0 (r.2.2.2.2.1.length) none], .c (.d (.v (.string r.2.2.2.2.2.1))), .c (.d (.v (.bool r.2.2.2.2.2.2)))]) [some (.arr 0 1 (r.2.1.map eS)), some (.arr 0 1 (r.2.2.1.map eS)), some (.arr 0 2 (r.2.2.2.1.map eWorkItem)), some (.arr 0 2 (r.2.2.2.2.1.map eWorkItem))] := by
  refine callS a17_ok (by simp [a17]) ?_
  rw [F17] at h
  simp only [a17, VW.down, Nat.reduceEqDiff, reduceCtorEq, Nat.reduceAdd, Nat.reduceLeDiff, Nat.reduceLT, Nat.reduceBEq, Nat.reduceSub, EE.down]
  obtain ⟨t1, ht1, h⟩ := Option.bind_eq_some_iff.1 h
  refine callX_n [] (F32_ok ht1) ?_ ?_ ?_ ?_ ?_ ?_
  · first | rfl | simp [nrmA, nrmC, nrm, A1.ren, C.ren, rn, List.length_set]
  · simp [liveAll, A1.live, C.live]
  · rfl
  · decide
  · exact trivial
  simp only [VW.down, Nat.reduceEqDiff, reduceCtorEq, Nat.reduceAdd, Nat.reduceLeDiff, Nat.reduceLT, Nat.reduceBEq, Nat.reduceSub, EE.down]
  refine condS (fun c2 => ?_) (fun c2 => ?_)
  · have h := (if_pos c2).symm.trans h
    simp only [VW.down, Nat.reduceEqDiff, reduceCtorEq, Nat.reduceAdd, Nat.reduceLeDiff, Nat.reduceLT, Nat.reduceBEq, Nat.reduceSub, EE.down]
    obtain rfl := Option.some.inj h
    exact eF [some 3, some 4, some 5, some 6]
  · have h := (if_neg c2).symm.trans h
    simp only [VW.down, Nat.reduceEqDiff, reduceCtorEq, Nat.reduceAdd, Nat.reduceLeDiff, Nat.reduceLT, Nat.reduceBEq, Nat.reduceSub, EE.down]
    obtain ⟨y3, hy3, h⟩ := Option.bind_eq_some_iff.1 h
    refine t_idxO (enc := eS) (xs := t1.1) rfl rfl rfl (by first | rfl | simp only [List.length_set] | exact (clrL_len (slI_len (by assumption))).symm) hy3 ?_
    simp only [VW.down, Nat.reduceEqDiff, reduceCtorEq, Nat.reduceAdd, Nat.reduceLeDiff, Nat.reduceLT, Nat.reduceBEq, Nat.reduceSub, EE.down]
    refine LdRow.rd (rdI_some hy3).2.1 ?_
    simp only [VW.down, Nat.reduceEqDiff, reduceCtorEq, Nat.reduceAdd, Nat.reduceLeDiff, Nat.reduceLT, Nat.reduceBEq, Nat.reduceSub, EE.down]
    obtain ⟨s4, hs4, h⟩ := Option.bind_eq_some_iff.1 h
    refine t_sliceO (enc := eS) (xs := t1.1) rfl rfl (by first | rfl | simp only [List.length_set] | exact (clrL_len (slI_len (by assumption))).symm) rfl (by first | rfl | simp only [intV, List.length_set]) hs4 ?_
    simp only [VW.down, Nat.reduceEqDiff, reduceCtorEq, Nat.reduceAdd, Nat.reduceLeDiff, Nat.reduceLT, Nat.reduceBEq, Nat.reduceSub, EE.down]
    obtain ⟨t5, ht5, h⟩ := Option.bind_eq_some_iff.1 h
    refine callX_borF (F33_ok ht5) (by simp only [borAs, bors, hp, List.getElem?_cons_zero, List.getElem?_cons_succ, Option.join_some, List.drop_zero, bor_full', true_and, Nat.zero_add, List.length_map, Nat.le_refl, nrm, List.length_cons, List.length_nil, Nat.reduceAdd, Nat.reduceLeDiff, List.take_succ_cons, List.take_zero, List.take_nil, List.map_cons, List.map_nil, List.length_set, EE.down]) rfl ⟨rfl, flat_rows (enc := eS) (fun _ => rfl) _, trivial⟩ ?_
    simp only [VW.down, Nat.reduceEqDiff, reduceCtorEq, Nat.reduceAdd, Nat.reduceLeDiff, Nat.reduceLT, Nat.reduceBEq, Nat.reduceSub, EE.down]
    obtain ⟨t6, ht6, h⟩ := Option.bind_eq_some_iff.1 h
    refine callX_n [7, 8] (F35_ok (e1 := 0) ht6) ?_ ?_ ?_ ?_ ?_ ?_
    · first | rfl | simp [nrmA, nrmC, nrm, A1.ren, C.ren, rn, List.length_set]
    · simp [liveAll, A1.live, C.live, hp]
    · rfl
    · decide
    · exact ⟨⟨rfl, by simp [Blk.live, C.live, hp]⟩, ⟨⟨rfl, trivial⟩, trivial⟩⟩
    simp only [VW.down, Nat.reduceEqDiff, reduceCtorEq, Nat.reduceAdd, Nat.reduceLeDiff, Nat.reduceLT, Nat.reduceBEq, Nat.reduceSub, EE.down]
    obtain rfl := Option.some.inj h
    exact eF [some 8, some 4, some 5, some 6] (hB := by simp only [ZZ.down, Nat.reduceEqDiff, reduceCtorEq, Nat.reduceAdd, Nat.reduceLeDiff, Nat.reduceLT, Nat.reduceBNe, EE.down, slI_frz1 hs4, slI_le1 hs4]) (hs := by simp only [ZZ.down, Nat.reduceEqDiff, reduceCtorEq, Nat.reduceAdd, Nat.reduceLeDiff, Nat.reduceLT, Nat.reduceBNe, EE.down, slI_frz1 hs4, slI_le1 hs4])

/- slices.Delete[[]string,string] -/
theorem a65_ok : afn Try.prog 65 = some (deleteA 1 16 [.v (.string ⟨#[]⟩)]) := by kernel_rfl
theorem F65_ok {x0 r : List ByteArray} {i j : Int} {e0 : Nat} (h : delI x0 i j = some r) : CallD Try.prog 65 [.c (.own 0 e0 0 x0.length none), aI i, aI j] [some (.arr e0 1 (x0.map eS))] (tupV [.c (.own 0 (e0 + 1) 0 r.length none)]) [some (.arr (e0 + 1) 1 (r.map eS))] := L_delete a65_ok (fun _ => rfl) h

/- (*orchestrator/workqueue.sorted[string]).remove -/
def F37 (x1 : ByteArray) (b0_0 : (List ByteArray)) : Option ((List ByteArray)) := (F34 x1 b0_0).bind fun t1 => (if (nb t1.2) = true then some b0_0 else (delI b0_0 t1.1 ((IntKind.i64.wrap (t1.1 + 1)))).bind fun t3 => some t3)
def a37 : AFn := ⟨27, [(.tmp 4)],
 (.seq (.reg [⟨(some 4), none, .mv kN, [], (.new [])⟩])
 (.seq (.reg [⟨(some 8), none, .mv (.t 0), [], (.new [])⟩,
   ⟨(some 9), none, .mv (.t 1), [], (.new [])⟩,
   ⟨(some 10), none, .call 34 [(.t 8), (.t 9)], [], (.new [])⟩,
   ⟨(some 7), none, .mv (.t 10), [], (.new [])⟩,
   ⟨(some 11), none, .ext (.t 7) 0, [], (.new [])⟩,
   ⟨(some 12), none, .ext (.t 7) 1, [], (.new [])⟩,
   ⟨(some 5), none, .mv (.t 11), [], (.new [])⟩,
   ⟨(some 6), none, .mv (.t 12), [], (.new [])⟩])
 (.seq (.seq (.reg [⟨(some 13), none, .mv (.t 6), [], (.new [])⟩,
   ⟨(some 14), none, .not (.t 13), [], (.new [])⟩])
 (.cond (.t 14)
 (.seq (.reg [⟨(some 15), none, .mv (.t 0), [], (.new [])⟩,
   ⟨(some 16), none, .fieldA 0 (.t 15), [], (.new [])⟩,
   ⟨(some 17), none, .fieldA 0 (.t 16), [], (.new [])⟩,
   ⟨(some 18), none, .load none (.t 17), [], (.new [])⟩,
   ⟨(some 4), none, .mv (.t 18), [], (.new [])⟩])
 .ret)
 .skip))
 (.seq (.reg [⟨(some 19), none, .mv (.t 0), [], (.new [])⟩,
   ⟨(some 20), none, .fieldA 0 (.t 19), [], (.new [])⟩,
   ⟨(some 21), none, .fieldA 0 (.t 20), [], (.new [])⟩,
   ⟨(some 22), none, .load none (.t 21), [], (.new [])⟩,
   ⟨(some 23), none, .mv (.t 5), [], (.new [])⟩,
   ⟨(some 24), none, .mv (.t 5), [], (.new [])⟩,
   ⟨(some 25), none, .bin .add (.t 24) (kI 1), [], (.new [])⟩,
   ⟨(some 26), none, .call 65 [(.t 22), (.t 23), (.t 25)], [], (.new [])⟩,
   ⟨(some 4), none, .mv (.t 26), [], (.new [])⟩])
 .ret))))⟩
theorem a37_ok : afn Try.prog 37 = some a37.er := by kernel_rfl
theorem F37_ok {x1 : ByteArray} {b0_0 : (List ByteArray)} {r : (List ByteArray)} {e1 : Nat} (h : F37 x1 b0_0 = some r) : CallD Try.prog 37 [.c (.pt 0 0), .c (.d (.v (.string x1)))] [some (.box [.own 1 e1 0 (b0_0.length) none, .fn 61 []]), some (.arr e1 1 (b0_0.map eS))] (tupV [.c (.own 1 (e1 + 2) 0 (r.length) none)]) [some (.box [.own 1 e1 0 0 (some 0), .fn 61 []]), some (.arr (e1 + 2) 1 (r.map eS))] := by
  refine callS a37_ok (by simp [a37]) ?_
  rw [F37] at h
  simp only [a37, VW.down, Nat.reduceEqDiff, reduceCtorEq, Nat.reduceAdd, Nat.reduceLeDiff, Nat.reduceLT, Nat.reduceBEq, Nat.reduceSub, EE.down]
  obtain ⟨t1, ht1, h⟩ := Option.bind_eq_some_iff.1 h
  refine callX_n [0, 1] (F34_ok (e1 := e1) ht1) ?_ ?_ ?_ ?_ ?_ ?_
  · first | rfl | simp [nrmA, nrmC, nrm, A1.ren, C.ren, rn, List.length_set]
  · simp [liveAll, A1.live, C.live, hp]
  · rfl
  · decide
  · exact ⟨⟨rfl, by simp [Blk.live, C.live, hp]⟩, ⟨⟨rfl, trivial⟩, trivial⟩⟩
  simp only [VW.down, Nat.reduceEqDiff, reduceCtorEq, Nat.reduceAdd, Nat.reduceLeDiff, Nat.reduceLT, Nat.reduceBEq, Nat.reduceSub, EE.down]
  refine condB (fun c2 => ?_) (fun c2 => ?_)
  · have h := (if_pos c2).symm.trans h
    simp only [VW.down, Nat.reduceEqDiff, reduceCtorEq, Nat.reduceAdd, Nat.reduceLeDiff, Nat.reduceLT, Nat.reduceBEq, Nat.reduceSub, EE.down]
    obtain rfl := Option.some.inj h
    exact eF [some 0, some 1]
  · have h := (if_neg c2).symm.trans h
    simp only [VW.down, Nat.reduceEqDiff, reduceCtorEq, Nat.reduceAdd, Nat.reduceLeDiff, Nat.reduceLT, Nat.reduceBEq, Nat.reduceSub, EE.down]
    obtain ⟨t3, ht3, h⟩ := Option.bind_eq_some_iff.1 h
    refine callX_n [1] (F65_ok (e0 := e1) ht3) ?_ ?_ ?_ ?_ ?_ ?_
    · first | rfl | simp [nrmA, nrmC, nrm, A1.ren, C.ren, rn, List.length_set]
    · simp [liveAll, A1.live, C.live, hp]
    · rfl
    · decide
    · exact ⟨⟨rfl, trivial⟩, trivial⟩
    simp only [VW.down, Nat.reduceEqDiff, reduceCtorEq, Nat.reduceAdd, Nat.reduceLeDiff, Nat.reduceLT, Nat.reduceBEq, Nat.reduceSub, EE.down]
    obtain rfl := Option.some.inj h
    exact eF [some 0, some 1]

/- orchestrator/workqueue.Done -/
def F16 (x0 : WorkQueue) (x1 : ByteArray) : Option ((List ByteArray) × (List ByteArray) × (List ByteArray) × (List WorkItem) × (List WorkItem)) := (F32 x0).bind fun t1 => (F33 t1.2.1).bind fun t2 => (F34 x1 t2).bind fun t3 => (if (nb t3.2) = true then some ((t1.1, t1.2.1, t1.2.2.1, t1.2.2.2.1, t1.2.2.2.2)) else (F33 t1.2.1).bind fun t5 => (F37 x1 t5).bind fun t6 => (F33 t1.2.2.1).bind fun t7 => (F34 x1 t7).bind fun t8 => (if t8.2 = true then (F33 t1.2.2.1).bind fun t10 => (F37 x1 t10).bind fun t11 => (apI t1.1 ([x1])).bind fun a12 => some ((a12, t6, t11, t1.2.2.2.1, t1.2.2.2.2)) else some ((t1.1, t6, t1.2.2.1, t1.2.2.2.1, t1.2.2.2.2))))
def a16 : AFn := ⟨50, [(.cell 4 (some 5))],
 (.seq (.reg [⟨(some 2), none, .box (.t 0), [], (.new [])⟩,
   ⟨(some 4), none, .zbox [.d (.v (.slice none 0 0)), .d (.v (.slice none 0 0)), .d (.v (.slice none 0 0)), .d (.v (.slice none 0 0)), .d (.v (.slice none 0 0))], [], (.new [])⟩])
 (.seq (.reg [⟨(some 9), none, .load (some 5) (.t 2), [], (.new [])⟩,
   ⟨(some 10), none, .call 32 [(.t 9)], [], (.new [])⟩,
   ⟨none, none, .store 5 (.t 2) (.t 10), [], (.new [])⟩])
 (.seq (.seq (.reg [⟨(some 12), none, .fieldA 1 (.t 2), [], (.new [])⟩,
   ⟨(some 13), none, .load none (.t 12), [], (.new [])⟩,
   ⟨(some 14), none, .call 33 [(.t 13)], [], (.new [])⟩,
   ⟨(some 15), none, .mv (.t 1), [], (.new [])⟩,
   ⟨(some 16), none, .call 34 [(.t 14), (.t 15)], [], (.new [])⟩,
   ⟨(some 11), none, .mv (.t 16), [], (.new [])⟩,
   ⟨(some 17), none, .ext (.t 11) 0, [], (.new [])⟩,
   ⟨(some 18), none, .ext (.t 11) 1, [], (.new [])⟩,
   ⟨(some 5), none, .mv (.t 17), [], (.new [])⟩,
   ⟨(some 6), none, .mv (.t 18), [], (.new [])⟩])
 (.seq (.reg [⟨(some 19), none, .mv (.t 6), [], (.new [])⟩,
   ⟨(some 20), none, .not (.t 19), [], (.new [])⟩])
 (.cond (.t 20)
 (.seq (.reg [⟨(some 21), none, .load (some 5) (.t 2), [], (.new [])⟩,
   ⟨none, none, .store 5 (.t 4) (.t 21), [], (.lone [2])⟩])
 .ret)
 .skip)))
 (.seq (.reg [⟨(some 22), none, .fieldA 1 (.t 2), [], (.new [])⟩,
   ⟨(some 23), none, .load none (.t 22), [], (.new [])⟩,
   ⟨(some 24), none, .call 33 [(.t 23)], [], (.new [])⟩,
   ⟨(some 25), none, .mv (.t 1), [], (.new [])⟩,
   ⟨(some 26), none, .call 37 [(.t 24), (.t 25)], [], (.new [])⟩,
   ⟨(some 27), none, .fieldA 1 (.t 2), [], (.new [])⟩,
   ⟨none, none, .store 1 (.t 27) (.t 26), [], (.new [])⟩])
 (.seq (.seq (.reg [⟨(some 29), none, .fieldA 2 (.t 2), [], (.new [])⟩,
   ⟨(some 30), none, .load none (.t 29), [], (.new [])⟩,
   ⟨(some 31), none, .call 33 [(.t 30)], [], (.new [])⟩,
   ⟨(some 32), none, .mv (.t 1), [], (.new [])⟩,
   ⟨(some 33), none, .call 34 [(.t 31), (.t 32)], [], (.new [])⟩,
   ⟨(some 28), none, .mv (.t 33), [], (.new [])⟩,
   ⟨(some 34), none, .ext (.t 28) 0, [], (.new [])⟩,
   ⟨(some 35), none, .ext (.t 28) 1, [], (.new [])⟩,
   ⟨(some 7), none, .mv (.t 34), [], (.new [])⟩,
   ⟨(some 8), none, .mv (.t 35), [], (.new [])⟩])
 (.seq (.reg [⟨(some 36), none, .mv (.t 8), [], (.new [])⟩])
 (.cond (.t 36)
 (.seq (.reg [⟨(some 37), none, .fieldA 2 (.t 2), [], (.new [])⟩,
   ⟨(some 38), none, .load none (.t 37), [], (.new [])⟩,
   ⟨(some 39), none, .call 33 [(.t 38)], [], (.new [])⟩,
   ⟨(some 40), none, .mv (.t 1), [], (.new [])⟩,
   ⟨(some 41), none, .call 37 [(.t 39), (.t 40)], [], (.new [])⟩,
   ⟨(some 42), none, .fieldA 2 (.t 2), [], (.new [])⟩,
   ⟨none, none, .store 1 (.t 42) (.t 41), [], (.new [])⟩])
 (.reg [⟨(some 43), none, .fieldA 0 (.t 2), [], (.new [])⟩,
   ⟨(some 44), none, .load none (.t 43), [], (.new [])⟩,
   ⟨(some 45), none, .mv (.t 1), [], (.new [])⟩,
   ⟨(some 46), none, .bslice 1 [(.t 45)], [], (.new [])⟩,
   ⟨(some 47), none, .app 1 16 (.t 44) (.t 46), [], (.new [])⟩,
   ⟨(some 48), none, .fieldA 0 (.t 2), [], (.new [])⟩,
   ⟨none, none, .store 1 (.t 48) (.t 47), [], (.new [])⟩]))
 .skip)))
 (.seq (.reg [⟨(some 49), none, .load (some 5) (.t 2), [], (.new [])⟩,
   ⟨none, none, .store 5 (.t 4) (.t 49), [], (.lone [2])⟩])
 .ret))))))⟩
theorem a16_ok : afn Try.prog 16 = some a16.er := by kernel_rfl
theorem F16_ok {x0 : WorkQueue} {x1 : ByteArray} {r : (List ByteArray) × (List ByteArray) × (List ByteArray) × (List WorkItem) × (List WorkItem)} (h : F16 x0 x1 = some r) : CallD Try.prog 16 [.agg [.d (.sl (x0.Ready.map eS)), .d (.sl (x0.Working.map eS)), .d (.sl (x0.Dirty.map eS)), .d (.sl (x0.Later.map eWorkItem)), .d (.sl (x0.Retries.map eWorkItem))], .c (.d (.v (.string x1)))] [] (tupV [.agg [.own 0 0 0 (r.1.length) none, .own 1 0 0 (r.2.1.length) none, .own 2 0 0 (r.2.2.1.length) none, .own 3 0 0 (r.2.2.2.1.length) none, .own 4 0 0 (r.2.2.2.2.length) none]]) [some (.arr 0 1 (r.1.map eS)), some (.arr 0 1 (r.2.1.map eS)), some (.arr 0 1 (r.2.2.1.map eS)), some (.arr 0 2 (r.2.2.2.1.map eWorkItem)), some (.arr 0 2 (r.2.2.2.2.map eWorkItem))] := by
  refine callS a16_ok (by simp [a16]) ?_
  rw [F16] at h
  simp only [a16, VW.down, Nat.reduceEqDiff, reduceCtorEq, Nat.reduceAdd, Nat.reduceLeDiff, Nat.reduceLT, Nat.reduceBEq, Nat.reduceSub, EE.down]
  obtain ⟨t1, ht1, h⟩ := Option.bind_eq_some_iff.1 h
  refine callX_n [] (F32_ok ht1) ?_ ?_ ?_ ?_ ?_ ?_
  · first | rfl | simp [nrmA, nrmC, nrm, A1.ren, C.ren, rn, List.length_set]
  · simp [liveAll, A1.live, C.live]
  · rfl
  · decide
  · exact trivial
  simp only [VW.down, Nat.reduceEqDiff, reduceCtorEq, Nat.reduceAdd, Nat.reduceLeDiff, Nat.reduceLT, Nat.reduceBEq, Nat.reduceSub, EE.down]
  obtain ⟨t2, ht2, h⟩ := Option.bind_eq_some_iff.1 h
  refine callX_borF (F33_ok ht2) (by simp only [borAs, bors, hp, List.getElem?_cons_zero, List.getElem?_cons_succ, Option.join_some, List.drop_zero, bor_full', true_and, Nat.zero_add, List.length_map, Nat.le_refl, nrm, List.length_cons, List.length_nil, Nat.reduceAdd, Nat.reduceLeDiff, List.take_succ_cons, List.take_zero, List.take_nil, List.map_cons, List.map_nil, List.length_set, EE.down]) rfl ⟨rfl, flat_rows (enc := eS) (fun _ => rfl) _, trivial⟩ ?_
  simp only [VW.down, Nat.reduceEqDiff, reduceCtorEq, Nat.reduceAdd, Nat.reduceLeDiff, Nat.reduceLT, Nat.reduceBEq, Nat.reduceSub, EE.down]
  obtain ⟨t3, ht3, h⟩ := Option.bind_eq_some_iff.1 h
  refine callX_n [7, 8] (F34_ok (e1 := 0) ht3) ?_ ?_ ?_ ?_ ?_ ?_
  · first | rfl | simp [nrmA, nrmC, nrm, A1.ren, C.ren, rn, List.length_set]
  · simp [liveAll, A1.live, C.live, hp]
  · rfl
  · decide
  · exact ⟨⟨rfl, by simp [Blk.live, C.live, hp]⟩, ⟨⟨rfl, trivial⟩, trivial⟩⟩
  simp only [VW.down, Nat.reduceEqDiff, reduceCtorEq, Nat.reduceAdd, Nat.reduceLeDiff, Nat.reduceLT, Nat.reduceBEq, Nat.reduceSub, EE.down]
  refine condB (fun c4 => ?_) (fun c4 => ?_)
  · have h := (if_pos c4).symm.trans h
    simp only [VW.down, Nat.reduceEqDiff, reduceCtorEq, Nat.reduceAdd, Nat.reduceLeDiff, Nat.reduceLT, Nat.reduceBEq, Nat.reduceSub, EE.down]
    obtain rfl := Option.some.inj h
    exact eF [some 2, some 3, some 4, some 5, some 6]
  · have h := (if_neg c4).symm.trans h
    simp only [VW.down, Nat.reduceEqDiff, reduceCtorEq, Nat.reduceAdd, Nat.reduceLeDiff, Nat.reduceLT, Nat.reduceBEq, Nat.reduceSub, EE.down]
    obtain ⟨t5, ht5, h⟩ := Option.bind_eq_some_iff.1 h
    refine callX_borF (F33_ok ht5) (by simp only [borAs, bors, hp, List.getElem?_cons_zero, List.getElem?_cons_succ, Option.join_some, List.drop_zero, bor_full', true_and, Nat.zero_add, List.length_map, Nat.le_refl, nrm, List.length_cons, List.length_nil, Nat.reduceAdd, Nat.reduceLeDiff, List.take_succ_cons, List.take_zero, List.take_nil, List.map_cons, List.map_nil, List.length_set, EE.down]) rfl ⟨rfl, flat_rows (enc := eS) (fun _ => rfl) _, trivial⟩ ?_
    simp only [VW.down, Nat.reduceEqDiff, reduceCtorEq, Nat.reduceAdd, Nat.reduceLeDiff, Nat.reduceLT, Nat.reduceBEq, Nat.reduceSub, EE.down]
    obtain ⟨t6, ht6, h⟩ := Option.bind_eq_some_iff.1 h
    refine callX_n [9, 10] (F37_ok (e1 := 0) ht6) ?_ ?_ ?_ ?_ ?_ ?_
    · first | rfl | simp [nrmA, nrmC, nrm, A1.ren, C.ren, rn, List.length_set]
    · simp [liveAll, A1.live, C.live, hp]
    · rfl
    · decide
    · exact ⟨⟨rfl, by simp [Blk.live, C.live, hp]⟩, ⟨⟨rfl, trivial⟩, trivial⟩⟩
    simp only [VW.down, Nat.reduceEqDiff, reduceCtorEq, Nat.reduceAdd, Nat.reduceLeDiff, Nat.reduceLT, Nat.reduceBEq, Nat.reduceSub, EE.down]
    obtain ⟨t7, ht7, h⟩ := Option.bind_eq_some_iff.1 h
    refine callX_borF (F33_ok ht7) (by simp only [borAs, bors, hp, List.getElem?_cons_zero, List.getElem?_cons_succ, Option.join_some, List.drop_zero, bor_full', true_and, Nat.zero_add, List.length_map, Nat.le_refl, nrm, List.length_cons, List.length_nil, Nat.reduceAdd, Nat.reduceLeDiff, List.take_succ_cons, List.take_zero, List.take_nil, List.map_cons, List.map_nil, List.length_set, EE.down]) rfl ⟨rfl, flat_rows (enc := eS) (fun _ => rfl) _, trivial⟩ ?_
    simp only [VW.down, Nat.reduceEqDiff, reduceCtorEq, Nat.reduceAdd, Nat.reduceLeDiff, Nat.reduceLT, Nat.reduceBEq, Nat.reduceSub, EE.down]
    obtain ⟨t8, ht8, h⟩ := Option.bind_eq_some_iff.1 h
    refine callX_n [11, 12] (F34_ok (e1 := 0) ht8) ?_ ?_ ?_ ?_ ?_ ?_
    · first | rfl | simp [nrmA, nrmC, nrm, A1.ren, C.ren, rn, List.length_set]
    · simp [liveAll, A1.live, C.live, hp]
    · rfl
    · decide
    · exact ⟨⟨rfl, by simp [Blk.live, C.live, hp]⟩, ⟨⟨rfl, trivial⟩, trivial⟩⟩
    simp only [VW.down, Nat.reduceEqDiff, reduceCtorEq, Nat.reduceAdd, Nat.reduceLeDiff, Nat.reduceLT, Nat.reduceBEq, Nat.reduceSub, EE.down]
    refine condB (fun c9 => ?_) (fun c9 => ?_)
    · have h := (if_pos c9).symm.trans h
      simp only [VW.down, Nat.reduceEqDiff, reduceCtorEq, Nat.reduceAdd, Nat.reduceLeDiff, Nat.reduceLT, Nat.reduceBEq, Nat.reduceSub, EE.down]
      obtain ⟨t10, ht10, h⟩ := Option.bind_eq_some_iff.1 h
      refine callX_borF (F33_ok ht10) (by simp only [borAs, bors, hp, List.getElem?_cons_zero, List.getElem?_cons_succ, Option.join_some, List.drop_zero, bor_full', true_and, Nat.zero_add, List.length_map, Nat.le_refl, nrm, List.length_cons, List.length_nil, Nat.reduceAdd, Nat.reduceLeDiff, List.take_succ_cons, List.take_zero, List.take_nil, List.map_cons, List.map_nil, List.length_set, EE.down]) rfl ⟨rfl, flat_rows (enc := eS) (fun _ => rfl) _, trivial⟩ ?_
      simp only [VW.down, Nat.reduceEqDiff, reduceCtorEq, Nat.reduceAdd, Nat.reduceLeDiff, Nat.reduceLT, Nat.reduceBEq, Nat.reduceSub, EE.down]
      obtain ⟨t11, ht11, h⟩ := Option.bind_eq_some_iff.1 h
      refine callX_n [13, 14] (F37_ok (e1 := 0) ht11) ?_ ?_ ?_ ?_ ?_ ?_
      · first | rfl | simp [nrmA, nrmC, nrm, A1.ren, C.ren, rn, List.length_set]
      · simp [liveAll, A1.live, C.live, hp]
      · rfl
      · decide
      · exact ⟨⟨rfl, by simp [Blk.live, C.live, hp]⟩, ⟨⟨rfl, trivial⟩, trivial⟩⟩
      simp only [VW.down, Nat.reduceEqDiff, reduceCtorEq, Nat.reduceAdd, Nat.reduceLeDiff, Nat.reduceLT, Nat.reduceBEq, Nat.reduceSub, EE.down]
      refine t_bslice (enc := eS) (ys := [x1]) rfl rfl (by simp [A1.cells]) rfl ?_
      simp only [VW.down, Nat.reduceEqDiff, reduceCtorEq, Nat.reduceAdd, Nat.reduceLeDiff, Nat.reduceLT, Nat.reduceBEq, Nat.reduceSub, EE.down]
      obtain ⟨a12, ha12, h⟩ := Option.bind_eq_some_iff.1 h
      refine t_app (enc := eS) (xs := t1.1) rfl rfl (by first | rfl | simp only [List.length_set] | exact (clrL_len (slI_len (by assumption))).symm) rfl (rows_full (enc := eS) (by first | rfl | simp only [List.length_set] | exact (clrL_len (slI_len (by assumption))).symm) rfl) ha12 ?_
      simp only [VW.down, Nat.reduceEqDiff, reduceCtorEq, Nat.reduceAdd, Nat.reduceLeDiff, Nat.reduceLT, Nat.reduceBEq, Nat.reduceSub, EE.down]
      obtain rfl := Option.some.inj h
      exact eF [some 2, some 10, some 14, some 5, some 6]
    · have h := (if_neg c9).symm.trans h
      simp only [VW.down, Nat.reduceEqDiff, reduceCtorEq, Nat.reduceAdd, Nat.reduceLeDiff, Nat.reduceLT, Nat.reduceBEq, Nat.reduceSub, EE.down]
      obtain rfl := Option.some.inj h
      exact eF [some 2, some 10, some 4, some 5, some 6]

/- orchestrator/workqueue.clamp -/
def F43 (x0 : Int) : Option (Unit) := some (())
def a43 : AFn := ⟨6, [(.tmp 2)],
 (.seq (.reg [⟨(some 2), none, .mv (kI 0), [], (.new [])⟩])
 (.seq (.reg [⟨(some 3), none, .mv (.t 0), [], (.new [])⟩,
   ⟨(some 4), none, .max (.t 3) (kI 0), [], (.new [])⟩,
   ⟨(some 5), none, .min (.t 4) (kI 1000000000000), [], (.new [])⟩,
   ⟨(some 2), none, .mv (.t 5), [], (.new [])⟩])
 .ret))⟩
theorem a43_ok : afn Try.prog 43 = some a43.er := by kernel_rfl
theorem F43_ok {x0 : Int} {r : Unit} (h : F43 x0 = some r) : CallD Try.prog 43 [.c (.d (.v (.int .i64 x0)))] [] (tupV [.c (.d (.v (.int .i64 ((if 1000000000000 < (if x0 < 0 then 0 else x0) then 1000000000000 else (if x0 < 0 then 0 else x0))))))]) [] := by
  refine callS a43_ok (by simp [a43]) ?_
  rw [F43] at h
  simp only [a43, VW.down, Nat.reduceEqDiff, reduceCtorEq, Nat.reduceAdd, Nat.reduceLeDiff, Nat.reduceLT, Nat.reduceBEq, Nat.reduceSub, EE.down]
  obtain rfl := Option.some.inj h
  exact eF []

/- orchestrator/backoff.clamp -/
def F68 (x0 : Int) : Option (Unit) := some (())
def a68 : AFn := ⟨6, [(.tmp 2)],
 (.seq (.reg [⟨(some 2), none, .mv (kI 0), [], (.new [])⟩])
 (.seq (.reg [⟨(some 3), none, .mv (.t 0), [], (.new [])⟩,
   ⟨(some 4), none, .max (.t 3) (kI 0), [], (.new [])⟩,
   ⟨(some 5), none, .min (.t 4) (kI 1000000000000), [], (.new [])⟩,
   ⟨(some 2), none, .mv (.t 5), [], (.new [])⟩])
 .ret))⟩
theorem a68_ok : afn Try.prog 68 = some a68.er := by kernel_rfl
theorem F68_ok {x0 : Int} {r : Unit} (h : F68 x0 = some r) : CallD Try.prog 68 [.c (.d (.v (.int .i64 x0)))] [] (tupV [.c (.d (.v (.int .i64 ((if 1000000000000 < (if x0 < 0 then 0 else x0) then 1000000000000 else (if x0 < 0 then 0 else x0))))))]) [] := by
  refine callS a68_ok (by simp [a68]) ?_
  rw [F68] at h
  simp only [a68, VW.down, Nat.reduceEqDiff, reduceCtorEq, Nat.reduceAdd, Nat.reduceLeDiff, Nat.reduceLT, Nat.reduceBEq, Nat.reduceSub, EE.down]
  obtain rfl := Option.some.inj h
  exact eF []

/- orchestrator/backoff.Delay -/
def F44_l4 (x1 : Int) (x2 : Int) : Nat → Int → Int → Option (Int)
  | 0, _, _ => none
  | k + 1, o4_0, o4_1 => (if o4_1 < (if 64 < (IntKind.i64.wrap (x2 - 1)) then 64 else (IntKind.i64.wrap (x2 - 1))) then (if (if 1000000000000 < (if x1 < 0 then 0 else x1) then 1000000000000 else (if x1 < 0 then 0 else x1)) ≤ o4_0 then some o4_0 else F44_l4 x1 x2 k ((IntKind.i64.wrap (o4_0 * 2))) ((IntKind.i64.wrap (o4_1 + 1)))) else some o4_0)
def F44 (x0 : Int) (x1 : Int) (x2 : Int) : Option (Int) := (F68 x0).bind fun t1 => (F68 x1).bind fun t2 => (if x2 < 1 then some 0 else ((F44_l4 x1 x2 1099511627776 ((if 1000000000000 < (if x0 < 0 then 0 else x0) then 1000000000000 else (if x0 < 0 then 0 else x0))) 0).bind fun o4 => some ((if (if 1000000000000 < (if x1 < 0 then 0 else x1) then 1000000000000 else (if x1 < 0 then 0 else x1)) < o4 then (if 1000000000000 < (if x1 < 0 then 0 else x1) then 1000000000000 else (if x1 < 0 then 0 else x1)) else o4))))
def a44 : AFn := ⟨29, [(.tmp 6)],
 (.seq (.reg [⟨(some 6), none, .mv (kI 0), [], (.new [])⟩])
 (.seq (.reg [⟨(some 9), none, .mv (.t 0), [], (.new [])⟩,
   ⟨(some 10), none, .call 68 [(.t 9)], [], (.new [])⟩,
   ⟨(some 11), none, .mv (.t 1), [], (.new [])⟩,
   ⟨(some 12), none, .call 68 [(.t 11)], [], (.new [])⟩,
   ⟨(some 7), none, .mv (.t 10), [], (.new [])⟩,
   ⟨(some 8), none, .mv (.t 12), [], (.new [])⟩])
 (.seq (.seq (.reg [⟨(some 13), none, .mv (.t 2), [], (.new [])⟩,
   ⟨(some 14), none, .bin .lss (.t 13) (kI 1), [], (.new [])⟩])
 (.cond (.t 14)
 (.seq (.reg [⟨(some 6), none, .mv (kI 0), [], (.new [])⟩])
 .ret)
 .skip))
 (.seq (.seq (.reg [⟨(some 15), none, .mv (.t 2), [], (.new [])⟩,
   ⟨(some 16), none, .bin .sub (.t 15) (kI 1), [], (.new [])⟩,
   ⟨(some 17), none, .min (.t 16) (kI 64), [], (.new [])⟩,
   ⟨(some 18), none, .mv (kI 0), [], (.new [])⟩])
 (.sem (.block 0 (.loop (.seq (.reg [⟨(some 19), none, .bin .lss (.t 18) (.t 17), [], (.new [])⟩])
 (.seq (.cond (.t 19)
 .skip
 (.exit 0))
 (.seq (.block 1 (.seq (.seq (.reg [⟨(some 20), none, .mv (.t 7), [], (.new [])⟩,
   ⟨(some 21), none, .mv (.t 8), [], (.new [])⟩,
   ⟨(some 22), none, .bin .geq (.t 20) (.t 21), [], (.new [])⟩])
 (.cond (.t 22)
 (.exit 0)
 .skip))
 (.reg [⟨(some 23), none, .mv (.t 7), [], (.new [])⟩,
   ⟨(some 24), none, .bin .mul (.t 23) (kI 2), [], (.new [])⟩,
   ⟨(some 7), none, .mv (.t 24), [], (.new [])⟩])))
 (.reg [⟨(some 25), none, .bin .add (.t 18) (kI 1), [], (.new [])⟩,
   ⟨(some 18), none, .mv (.t 25), [], (.new [])⟩]))))))))
 (.seq (.reg [⟨(some 26), none, .mv (.t 7), [], (.new [])⟩,
   ⟨(some 27), none, .mv (.t 8), [], (.new [])⟩,
   ⟨(some 28), none, .min (.t 26) (.t 27), [], (.new [])⟩,
   ⟨(some 6), none, .mv (.t 28), [], (.new [])⟩])
 .ret)))))⟩
theorem a44_ok : afn Try.prog 44 = some a44.er := by kernel_rfl
theorem F44_ok {x0 : Int} {x1 : Int} {x2 : Int} {r : Int} (h : F44 x0 x1 x2 = some r) : CallD Try.prog 44 [.c (.d (.v (.int .i64 x0))), .c (.d (.v (.int .i64 x1))), .c (.d (.v (.int .i64 x2)))] [] (tupV [.c (.d (.v (.int .i64 r)))]) [] := by
  refine callS a44_ok (by simp [a44]) ?_
  rw [F44] at h
  simp only [a44, VW.down, Nat.reduceEqDiff, reduceCtorEq, Nat.reduceAdd, Nat.reduceLeDiff, Nat.reduceLT, Nat.reduceBEq, Nat.reduceSub, EE.down]
  obtain ⟨t1, ht1, h⟩ := Option.bind_eq_some_iff.1 h
  refine callX_n [] (F68_ok ht1) ?_ ?_ ?_ ?_ ?_ ?_
  · first | rfl | simp [nrmA, nrmC, nrm, A1.ren, C.ren, rn, List.length_set]
  · simp [liveAll, A1.live, C.live]
  · rfl
  · decide
  · exact trivial
  simp only [VW.down, Nat.reduceEqDiff, reduceCtorEq, Nat.reduceAdd, Nat.reduceLeDiff, Nat.reduceLT, Nat.reduceBEq, Nat.reduceSub, EE.down]
  obtain ⟨t2, ht2, h⟩ := Option.bind_eq_some_iff.1 h
  refine callX_n [] (F68_ok ht2) ?_ ?_ ?_ ?_ ?_ ?_
  · first | rfl | simp [nrmA, nrmC, nrm, A1.ren, C.ren, rn, List.length_set]
  · simp [liveAll, A1.live, C.live]
  · rfl
  · decide
  · exact trivial
  simp only [VW.down, Nat.reduceEqDiff, reduceCtorEq, Nat.reduceAdd, Nat.reduceLeDiff, Nat.reduceLT, Nat.reduceBEq, Nat.reduceSub, EE.down]
  refine condS (fun c3 => ?_) (fun c3 => ?_)
  · have h := (if_pos c3).symm.trans h
    simp only [VW.down, Nat.reduceEqDiff, reduceCtorEq, Nat.reduceAdd, Nat.reduceLeDiff, Nat.reduceLT, Nat.reduceBEq, Nat.reduceSub, EE.down]
    obtain rfl := Option.some.inj h
    exact eF []
  · have h := (if_neg c3).symm.trans h
    simp only [VW.down, Nat.reduceEqDiff, reduceCtorEq, Nat.reduceAdd, Nat.reduceLeDiff, Nat.reduceLT, Nat.reduceBEq, Nat.reduceSub, EE.down]
    obtain ⟨o4, ho, h⟩ := Option.bind_eq_some_iff.1 h
    refine cutS (fun s => s = ⟨[(7, .one (.c (.d (.v (.int .i64 o4))))), (8, .one (.c (.d (.v (.int .i64 ((if 1000000000000 < (if x1 < 0 then 0 else x1) then 1000000000000 else (if x1 < 0 then 0 else x1))))))))], []⟩) ?_ ?_
    · have h := ho
      clear ho
      simp only [VW.down, Nat.reduceEqDiff, reduceCtorEq, Nat.reduceAdd, Nat.reduceLeDiff, Nat.reduceLT, Nat.reduceBEq, Nat.reduceSub, EE.down]
      refine bL (fun j s => ∃ (o4_0 : Int) (o4_1 : Int), s = ⟨[(7, .one (.c (.d (.v (.int .i64 o4_0))))), (8, .one (.c (.d (.v (.int .i64 ((if 1000000000000 < (if x1 < 0 then 0 else x1) then 1000000000000 else (if x1 < 0 then 0 else x1)))))))), (17, .one (.c (.d (.v (.int .i64 ((if 64 < (IntKind.i64.wrap (x2 - 1)) then 64 else (IntKind.i64.wrap (x2 - 1))))))))), (18, .one (.c (.d (.v (.int .i64 o4_1)))))], []⟩ ∧ F44_l4 x1 x2 j o4_0 o4_1 = some o4) 1099511627776 [] ⟨(if 1000000000000 < (if x0 < 0 then 0 else x0) then 1000000000000 else (if x0 < 0 then 0 else x0)), 0, rfl, h⟩ ?_
      rintro j _ ⟨o4_0, o4_1, rfl, h⟩
      cases j with
      | zero => cases (show (none : Option _) = some _ from h)
      | succ j =>
        rw [F44_l4] at h
        simp only [VW.down, Nat.reduceEqDiff, reduceCtorEq, Nat.reduceAdd, Nat.reduceLeDiff, Nat.reduceLT, Nat.reduceBEq, Nat.reduceSub, EE.down]
        refine condS (fun c5 => ?_) (fun c5 => ?_)
        · have h := (if_pos c5).symm.trans h
          simp only [VW.down, Nat.reduceEqDiff, reduceCtorEq, Nat.reduceAdd, Nat.reduceLeDiff, Nat.reduceLT, Nat.reduceBEq, Nat.reduceSub, EE.down]
          refine condS (fun c6 => ?_) (fun c6 => ?_)
          · have h := (if_pos c6).symm.trans h
            simp only [VW.down, Nat.reduceEqDiff, reduceCtorEq, Nat.reduceAdd, Nat.reduceLeDiff, Nat.reduceLT, Nat.reduceBEq, Nat.reduceSub, EE.down]
            obtain rfl := Option.some.inj h
            exact eM [] rfl
          · have h := (if_neg c6).symm.trans h
            simp only [VW.down, Nat.reduceEqDiff, reduceCtorEq, Nat.reduceAdd, Nat.reduceLeDiff, Nat.reduceLT, Nat.reduceBEq, Nat.reduceSub, EE.down]
            exact eL' j [] ⟨(IntKind.i64.wrap (o4_0 * 2)), (IntKind.i64.wrap (o4_1 + 1)), rfl, h⟩ (Nat.lt_succ_self _)
        · have h := (if_neg c5).symm.trans h
          simp only [VW.down, Nat.reduceEqDiff, reduceCtorEq, Nat.reduceAdd, Nat.reduceLeDiff, Nat.reduceLT, Nat.reduceBEq, Nat.reduceSub, EE.down]
          obtain rfl := Option.some.inj h
          exact eM [] rfl
    · rintro _ rfl
      clear ho
      simp only [VW.down, Nat.reduceEqDiff, reduceCtorEq, Nat.reduceAdd, Nat.reduceLeDiff, Nat.reduceLT, Nat.reduceBEq, Nat.reduceSub, EE.down]
      obtain rfl := Option.some.inj h
      exact eF []

/- orchestrator/workqueue.After$1 -/
def F47 (x0 : WorkItem) (b0 : ByteArray) : Option (Unit) := some (())
def a47 : AFn := ⟨8, [(.tmp 3)],
 (.seq (.reg [⟨(some 2), none, .box (.t 0), [], (.new [])⟩,
   ⟨(some 3), none, .mv (kB false), [], (.new [])⟩])
 (.seq (.reg [⟨(some 4), none, .fieldA 0 (.t 2), [], (.new [])⟩,
   ⟨(some 5), none, .load none (.t 4), [], (.new [])⟩,
   ⟨(some 6), none, .load none (.t 1), [], (.new [])⟩,
   ⟨(some 7), none, .bin .eql (.t 5) (.t 6), [], (.new [])⟩,
   ⟨(some 3), none, .mv (.t 7), [], (.new [])⟩])
 .ret))⟩
theorem a47_ok : afn Try.prog 47 = some a47.er := by kernel_rfl
theorem F47_ok {x0 : WorkItem} {b0 : ByteArray} {r : Unit} (h : F47 x0 b0 = some r) : CallD Try.prog 47 [.agg [.d (.v (.string x0.Key)), .d (.v (.int .i64 x0.At))], .c (.pt 0 0)] [some (.box [.d (.v (.string b0))])] (tupV [.c (.d (.v (.bool (decide (x0.Key = b0)))))]) [some (.box [.d (.v (.string b0))])] := by
  refine callS a47_ok (by simp [a47]) ?_
  rw [F47] at h
  simp only [a47, VW.down, Nat.reduceEqDiff, reduceCtorEq, Nat.reduceAdd, Nat.reduceLeDiff, Nat.reduceLT, Nat.reduceBEq, Nat.reduceSub, EE.down]
  obtain rfl := Option.some.inj h
  exact eF [some 0]

/- slices.IndexFunc[[]orchestrator/api.WorkItem,orchestrator/api.WorkItem] -/
def F46_l1 (b1 : ByteArray) (x0 : (List WorkItem)) : List WorkItem → Nat → Option ((Int) ⊕ (Unit))
  | [], o1_0 => some (Sum.inr (()))
  | xo1 :: xs, o1_0 => (rdI x0 ((o1_0 : Int))).bind fun y3 => (F47 y3 b1).bind fun t4 => (if y3.Key = b1 then (some ((o1_0 : Int))).map Sum.inl else F46_l1 b1 x0 xs (o1_0 + 1))
def F46 (x0 : (List WorkItem)) (b1 : ByteArray) : Option (Int) := (((ck (0 ≤ x0.length ∧ x0.length ≤ 4294967290)).bind fun u6 => F46_l1 b1 x0 x0 0).bind fun o1 => match o1 with | Sum.inl f => some f | Sum.inr po1 => some ((-1)))
def a46 : AFn := ⟨19, [(.tmp 4)],
 (.seq (.reg [⟨(some 4), none, .mv (kI 0), [], (.new [])⟩])
 (.seq (.seq (.reg [⟨(some 6), none, .mv (.t 0), [], (.new [])⟩,
   ⟨(some 7), none, .len (.t 6), [], (.new [])⟩,
   ⟨(some 8), none, .mv (kI 0), [], (.new [])⟩])
 (.sem (.block 0 (.loop (.seq (.reg [⟨(some 9), none, .bin .lss (.t 8) (.t 7), [], (.new [])⟩])
 (.seq (.cond (.t 9)
 .skip
 (.exit 0))
 (.seq (.block 1 (.seq (.reg [⟨(some 10), none, .mv (.t 8), [], (.new [])⟩,
   ⟨(some 5), none, .mv (.t 10), [], (.new [])⟩])
 (.seq (.reg [⟨(some 11), none, .mv (.t 1), [], (.new [])⟩,
   ⟨(some 12), none, .mv (.t 0), [], (.new [])⟩,
   ⟨(some 13), none, .mv (.t 5), [], (.new [])⟩,
   ⟨(some 14), none, .indexA 2 (.t 12) (.t 13), [], (.new [])⟩,
   ⟨(some 15), none, .load (some 2) (.t 14), [], (.new [])⟩,
   ⟨(some 16), none, .callv (.t 11) [(.t 15)], [], (.lone [12, 14])⟩])
 (.cond (.t 16)
 (.seq (.reg [⟨(some 17), none, .mv (.t 5), [], (.new [])⟩,
   ⟨(some 4), none, .mv (.t 17), [], (.new [])⟩])
 .ret)
 .skip))))
 (.reg [⟨(some 18), none, .bin .add (.t 8) (kI 1), [], (.new [])⟩,
   ⟨(some 8), none, .mv (.t 18), [], (.new [])⟩]))))))))
 (.seq (.reg [⟨(some 4), none, .mv (kI (-1)), [], (.new [])⟩])
 .ret)))⟩
theorem a46_ok : afn Try.prog 46 = some a46.er := by kernel_rfl
theorem F46_ok {x0 : (List WorkItem)} {b1 : ByteArray} {r : Int} {e0 : Nat} (h : F46 x0 b1 = some r) : CallD Try.prog 46 [.c (.own 0 e0 0 (x0.length) none), .c (.fn 47 [(1, 0)])] [some (.arr e0 2 (x0.map eWorkItem)), some (.box [.d (.v (.string b1))])] (tupV [.c (.d (.v (.int .i64 r)))]) [some (.arr e0 2 (x0.map eWorkItem)), some (.box [.d (.v (.string b1))])] := by
  refine callS a46_ok (by simp [a46]) ?_
  rw [F46] at h
  simp only [a46, VW.down, Nat.reduceEqDiff, reduceCtorEq, Nat.reduceAdd, Nat.reduceLeDiff, Nat.reduceLT, Nat.reduceBEq, Nat.reduceSub, EE.down]
  obtain ⟨o1, ho, h⟩ := Option.bind_eq_some_iff.1 h
  refine cutS (fun s => ∃ po1, o1 = Sum.inr po1 ∧ s = ⟨[], [some (.arr e0 2 (x0.map eWorkItem)), some (.box [.d (.v (.string b1))])]⟩) ?_ ?_
  · have h0o1 := h
    have h := ho
    clear ho
    obtain ⟨_, hk, h⟩ := Option.bind_eq_some_iff.1 h
    have hk := ck_some hk
    simp only [VW.down, Nat.reduceEqDiff, reduceCtorEq, Nat.reduceAdd, Nat.reduceLeDiff, Nat.reduceLT, Nat.reduceBEq, Nat.reduceSub, EE.down]
    refine bL (fun j s => ∃ (o1_0 : Nat), (o1_0 ≤ x0.length ∧ j = x0.length - o1_0) ∧ s = ⟨[(0, .one (.c (.own 0 e0 0 (x0.length) none))), (1, .one (.c (.fn 47 [(1, 0)]))), (7, .one (.c (.d (.v (.int .i64 ((x0.length : Int))))))), (8, .one (.c (.d (.v (.int .i64 ((o1_0 : Int)))))))], [some (.arr e0 2 (x0.map eWorkItem)), some (.box [.d (.v (.string b1))])]⟩ ∧ F46_l1 b1 x0 (x0.drop o1_0) o1_0 = some o1) (x0.length - 0) [some 0, some 1] ⟨0, ⟨hk.1, rfl⟩, rfl, h⟩ ?_
    rintro _ _ ⟨o1_0, ⟨hi, rfl⟩, rfl, h⟩
    simp only [VW.down, Nat.reduceEqDiff, reduceCtorEq, Nat.reduceAdd, Nat.reduceLeDiff, Nat.reduceLT, Nat.reduceBEq, Nat.reduceSub, EE.down]
    refine condS (fun c2 => ?_) (fun c2 => ?_)
    · obtain ⟨xo1, hxo1, hd⟩ := countY c2
      rw [hd, F46_l1] at h
      simp only [VW.down, Nat.reduceEqDiff, reduceCtorEq, Nat.reduceAdd, Nat.reduceLeDiff, Nat.reduceLT, Nat.reduceBEq, Nat.reduceSub, EE.down]
      obtain ⟨y3, hy3, h⟩ := Option.bind_eq_some_iff.1 h
      refine t_idxO (enc := eWorkItem) (xs := x0) rfl rfl rfl (by first | rfl | simp only [List.length_set] | exact (clrL_len (slI_len (by assumption))).symm) hy3 ?_
      simp only [VW.down, Nat.reduceEqDiff, reduceCtorEq, Nat.reduceAdd, Nat.reduceLeDiff, Nat.reduceLT, Nat.reduceBEq, Nat.reduceSub, EE.down]
      refine LdRow.rd (rdI_some hy3).2.1 ?_
      simp only [VW.down, Nat.reduceEqDiff, reduceCtorEq, Nat.reduceAdd, Nat.reduceLeDiff, Nat.reduceLT, Nat.reduceBEq, Nat.reduceSub, EE.down]
      obtain ⟨t4, ht4, h⟩ := Option.bind_eq_some_iff.1 h
      refine callX_n [1] (F47_ok ht4) ?_ ?_ ?_ ?_ ?_ ?_
      · first | rfl | simp [nrmA, nrmC, nrm, A1.ren, C.ren, rn, List.length_set]
      · simp [liveAll, A1.live, C.live, hp]
      · rfl
      · decide
      · exact ⟨⟨rfl, by simp [Blk.live, C.live, hp]⟩, trivial⟩
      simp only [VW.down, Nat.reduceEqDiff, reduceCtorEq, Nat.reduceAdd, Nat.reduceLeDiff, Nat.reduceLT, Nat.reduceBEq, Nat.reduceSub, EE.down]
      refine condS (fun c5 => ?_) (fun c5 => ?_)
      · have h := (if_pos c5).symm.trans h
        simp only [VW.down, Nat.reduceEqDiff, reduceCtorEq, Nat.reduceAdd, Nat.reduceLeDiff, Nat.reduceLT, Nat.reduceBEq, Nat.reduceSub, EE.down]
        obtain ⟨fh0o1, hfh0o1, rfl⟩ := Option.map_eq_some_iff.1 h
        have h := hfh0o1.trans h0o1
        obtain rfl := Option.some.inj h
        exact eF [some 0, some 1]
      · have h := (if_neg c5).symm.trans h
        simp only [VW.down, Nat.reduceEqDiff, reduceCtorEq, Nat.reduceAdd, Nat.reduceLeDiff, Nat.reduceLT, Nat.reduceBEq, Nat.reduceSub, EE.down]
        rw [wrapN (by omega)]
        exact eL' (x0.length - (o1_0 + 1)) [some 0, some 1] ⟨o1_0 + 1, ⟨by omega, rfl⟩, rfl, h⟩ (by omega)
    · rw [countN c2, F46_l1] at h
      simp only [VW.down, Nat.reduceEqDiff, reduceCtorEq, Nat.reduceAdd, Nat.reduceLeDiff, Nat.reduceLT, Nat.reduceBEq, Nat.reduceSub, EE.down]
      obtain rfl := Option.some.inj h
      exact eM [some 0, some 1] ⟨_, rfl, rfl⟩
  · rintro _ ⟨po1, rfl, rfl⟩
    clear ho
    dsimp only at h
    simp only [VW.down, Nat.reduceEqDiff, reduceCtorEq, Nat.reduceAdd, Nat.reduceLeDiff, Nat.reduceLT, Nat.reduceBEq, Nat.reduceSub, EE.down]
    obtain rfl := Option.some.inj h
    exact eF [some 0, some 1]

/- slices.Delete[[]orchestrator/api.WorkItem,orchestrator/api.WorkItem] -/
theorem a48_ok : afn Try.prog 48 = some (deleteA 2 24 [.v (.string ⟨#[]⟩), .v (.int .i64 0)]) := by kernel_rfl
theorem F48_ok {x0 r : List WorkItem} {i j : Int} {e0 : Nat} (h : delI x0 i j = some r) : CallD Try.prog 48 [.c (.own 0 e0 0 x0.length none), aI i, aI j] [some (.arr e0 2 (x0.map eWorkItem))] (tupV [.c (.own 0 (e0 + 1) 0 r.length none)]) [some (.arr (e0 + 1) 2 (r.map eWorkItem))] := L_delete a48_ok (fun _ => rfl) h

/- orchestrator/workqueue.of[orchestrator/api.WorkItem] -/
def F39 (x0 : (List WorkItem)) : Option ((List WorkItem)) := (cloneI x0).bind fun t1 => some t1
def a39 : AFn := ⟨10, [(.tmp 4)],
 (.seq (.reg [⟨(some 4), none, .mv (.k (.c (.d (.v (.pointer none))))), [], (.new [])⟩])
 (.seq (.reg [⟨(some 5), none, .mv (.t 0), [], (.new [])⟩,
   ⟨(some 6), none, .call 45 [(.t 5)], [], (.new [])⟩,
   ⟨(some 7), none, .mv (.t 1), [], (.new [])⟩,
   ⟨(some 8), none, .build [.d (.v (.slice none 0 0)), .d (.v (.nilFunc))] [(0, 1, (.t 6)), (1, 1, (.t 7))], [], (.new [])⟩,
   ⟨(some 9), none, .box (.t 8), [], (.new [])⟩,
   ⟨(some 4), none, .mv (.t 9), [], (.new [])⟩])
 .ret))⟩
theorem a39_ok : afn Try.prog 39 = some a39.er := by kernel_rfl
theorem F39_ok {x0 : (List WorkItem)} {r : (List WorkItem)} (h : F39 x0 = some r) : CallD Try.prog 39 [.c (.d (.sl (x0.map eWorkItem))), .c (.fn 49 [])] [] (tupV [.c (.pt 0 0)]) [some (.box [.own 1 0 0 (r.length) none, .fn 49 []]), some (.arr 0 2 (r.map eWorkItem))] := by
  refine callS a39_ok (by simp [a39]) ?_
  rw [F39] at h
  simp only [a39, VW.down, Nat.reduceEqDiff, reduceCtorEq, Nat.reduceAdd, Nat.reduceLeDiff, Nat.reduceLT, Nat.reduceBEq, Nat.reduceSub, EE.down]
  obtain ⟨t1, ht1, h⟩ := Option.bind_eq_some_iff.1 h
  refine callX_n [] (F45_ok ht1) ?_ ?_ ?_ ?_ ?_ ?_
  · first | rfl | simp [nrmA, nrmC, nrm, A1.ren, C.ren, rn, List.length_set]
  · simp [liveAll, A1.live, C.live]
  · rfl
  · decide
  · exact trivial
  simp only [VW.down, Nat.reduceEqDiff, reduceCtorEq, Nat.reduceAdd, Nat.reduceLeDiff, Nat.reduceLT, Nat.reduceBEq, Nat.reduceSub, EE.down]
  obtain rfl := Option.some.inj h
  exact eF [some 1, some 0]

/- cmp.isNaN[int] -/
def F77 (x0 : Int) : Option (Unit) := some (())
def a77 : AFn := ⟨6, [(.tmp 2)],
 (.seq (.reg [⟨(some 2), none, .mv (kB false), [], (.new [])⟩])
 (.seq (.reg [⟨(some 3), none, .mv (.t 0), [], (.new [])⟩,
   ⟨(some 4), none, .mv (.t 0), [], (.new [])⟩,
   ⟨(some 5), none, .bin .neq (.t 3) (.t 4), [], (.new [])⟩,
   ⟨(some 2), none, .mv (.t 5), [], (.new [])⟩])
 .ret))⟩
theorem a77_ok : afn Try.prog 77 = some a77.er := by kernel_rfl
theorem F77_ok {x0 : Int} {r : Unit} (h : F77 x0 = some r) : CallD Try.prog 77 [.c (.d (.v (.int .i64 x0)))] [] (tupV [.c (.d (.v (.bool (decide (¬ (True))))))]) [] := by
  refine callS a77_ok (by simp [a77]) ?_
  rw [F77] at h
  simp only [a77, VW.down, Nat.reduceEqDiff, reduceCtorEq, Nat.reduceAdd, Nat.reduceLeDiff, Nat.reduceLT, Nat.reduceBEq, Nat.reduceSub, EE.down]
  obtain rfl := Option.some.inj h
  exact eF []

/- cmp.Compare[int] -/
def F70 (x0 : Int) (x1 : Int) : Option (Int) := (F77 x0).bind fun t1 => (F77 x1).bind fun t2 => (if ¬ (True) then (if ¬ (True) then some 0 else some ((-1))) else (if ¬ (True) then some 1 else (if x0 < x1 then some ((-1)) else (if x1 < x0 then some 1 else some 0))))
def a70 : AFn := ⟨20, [(.tmp 4)],
 (.seq (.reg [⟨(some 4), none, .mv (kI 0), [], (.new [])⟩])
 (.seq (.reg [⟨(some 7), none, .mv (.t 0), [], (.new [])⟩,
   ⟨(some 8), none, .call 77 [(.t 7)], [], (.new [])⟩,
   ⟨(some 5), none, .mv (.t 8), [], (.new [])⟩])
 (.seq (.reg [⟨(some 9), none, .mv (.t 1), [], (.new [])⟩,
   ⟨(some 10), none, .call 77 [(.t 9)], [], (.new [])⟩,
   ⟨(some 6), none, .mv (.t 10), [], (.new [])⟩])
 (.seq (.seq (.reg [⟨(some 11), none, .mv (.t 5), [], (.new [])⟩])
 (.cond (.t 11)
 (.seq (.seq (.reg [⟨(some 12), none, .mv (.t 6), [], (.new [])⟩])
 (.cond (.t 12)
 (.seq (.reg [⟨(some 4), none, .mv (kI 0), [], (.new [])⟩])
 .ret)
 .skip))
 (.seq (.reg [⟨(some 4), none, .mv (kI (-1)), [], (.new [])⟩])
 .ret))
 .skip))
 (.seq (.seq (.reg [⟨(some 13), none, .mv (.t 6), [], (.new [])⟩])
 (.cond (.t 13)
 (.seq (.reg [⟨(some 4), none, .mv (kI 1), [], (.new [])⟩])
 .ret)
 .skip))
 (.seq (.seq (.reg [⟨(some 14), none, .mv (.t 0), [], (.new [])⟩,
   ⟨(some 15), none, .mv (.t 1), [], (.new [])⟩,
   ⟨(some 16), none, .bin .lss (.t 14) (.t 15), [], (.new [])⟩])
 (.cond (.t 16)
 (.seq (.reg [⟨(some 4), none, .mv (kI (-1)), [], (.new [])⟩])
 .ret)
 .skip))
 (.seq (.seq (.reg [⟨(some 17), none, .mv (.t 0), [], (.new [])⟩,
   ⟨(some 18), none, .mv (.t 1), [], (.new [])⟩,
   ⟨(some 19), none, .bin .gtr (.t 17) (.t 18), [], (.new [])⟩])
 (.cond (.t 19)
 (.seq (.reg [⟨(some 4), none, .mv (kI 1), [], (.new [])⟩])
 .ret)
 .skip))
 (.seq (.reg [⟨(some 4), none, .mv (kI 0), [], (.new [])⟩])
 .ret))))))))⟩
theorem a70_ok : afn Try.prog 70 = some a70.er := by kernel_rfl
theorem F70_ok {x0 : Int} {x1 : Int} {r : Int} (h : F70 x0 x1 = some r) : CallD Try.prog 70 [.c (.d (.v (.int .i64 x0))), .c (.d (.v (.int .i64 x1)))] [] (tupV [.c (.d (.v (.int .i64 r)))]) [] := by
  refine callS a70_ok (by simp [a70]) ?_
  rw [F70] at h
  simp only [a70, VW.down, Nat.reduceEqDiff, reduceCtorEq, Nat.reduceAdd, Nat.reduceLeDiff, Nat.reduceLT, Nat.reduceBEq, Nat.reduceSub, EE.down]
  obtain ⟨t1, ht1, h⟩ := Option.bind_eq_some_iff.1 h
  refine callX_n [] (F77_ok ht1) ?_ ?_ ?_ ?_ ?_ ?_
  · first | rfl | simp [nrmA, nrmC, nrm, A1.ren, C.ren, rn, List.length_set]
  · simp [liveAll, A1.live, C.live]
  · rfl
  · decide
  · exact trivial
  simp only [VW.down, Nat.reduceEqDiff, reduceCtorEq, Nat.reduceAdd, Nat.reduceLeDiff, Nat.reduceLT, Nat.reduceBEq, Nat.reduceSub, EE.down]
  obtain ⟨t2, ht2, h⟩ := Option.bind_eq_some_iff.1 h
  refine callX_n [] (F77_ok ht2) ?_ ?_ ?_ ?_ ?_ ?_
  · first | rfl | simp [nrmA, nrmC, nrm, A1.ren, C.ren, rn, List.length_set]
  · simp [liveAll, A1.live, C.live]
  · rfl
  · decide
  · exact trivial
  simp only [VW.down, Nat.reduceEqDiff, reduceCtorEq, Nat.reduceAdd, Nat.reduceLeDiff, Nat.reduceLT, Nat.reduceBEq, Nat.reduceSub, EE.down]
  refine condS (fun c3 => ?_) (fun c3 => ?_)
  · have h := (if_pos c3).symm.trans h
    simp only [VW.down, Nat.reduceEqDiff, reduceCtorEq, Nat.reduceAdd, Nat.reduceLeDiff, Nat.reduceLT, Nat.reduceBEq, Nat.reduceSub, EE.down]
    refine condS (fun c4 => ?_) (fun c4 => ?_)
    · have h := (if_pos c4).symm.trans h
      simp only [VW.down, Nat.reduceEqDiff, reduceCtorEq, Nat.reduceAdd, Nat.reduceLeDiff, Nat.reduceLT, Nat.reduceBEq, Nat.reduceSub, EE.down]
      obtain rfl := Option.some.inj h
      exact eF []
    · have h := (if_neg c4).symm.trans h
      simp only [VW.down, Nat.reduceEqDiff, reduceCtorEq, Nat.reduceAdd, Nat.reduceLeDiff, Nat.reduceLT, Nat.reduceBEq, Nat.reduceSub, EE.down]
      obtain rfl := Option.some.inj h
      exact eF []
  · have h := (if_neg c3).symm.trans h
    simp only [VW.down, Nat.reduceEqDiff, reduceCtorEq, Nat.reduceAdd, Nat.reduceLeDiff, Nat.reduceLT, Nat.reduceBEq, Nat.reduceSub, EE.down]
    refine condS (fun c5 => ?_) (fun c5 => ?_)
    · have h := (if_pos c5).symm.trans h
      simp only [VW.down, Nat.reduceEqDiff, reduceCtorEq, Nat.reduceAdd, Nat.reduceLeDiff, Nat.reduceLT, Nat.reduceBEq, Nat.reduceSub, EE.down]
      obtain rfl := Option.some.inj h
      exact eF []
    · have h := (if_neg c5).symm.trans h
      simp only [VW.down, Nat.reduceEqDiff, reduceCtorEq, Nat.reduceAdd, Nat.reduceLeDiff, Nat.reduceLT, Nat.reduceBEq, Nat.reduceSub, EE.down]
      refine condS (fun c6 => ?_) (fun c6 => ?_)
      · have h := (if_pos c6).symm.trans h
        simp only [VW.down, Nat.reduceEqDiff, reduceCtorEq, Nat.reduceAdd, Nat.reduceLeDiff, Nat.reduceLT, Nat.reduceBEq, Nat.reduceSub, EE.down]
        obtain rfl := Option.some.inj h
        exact eF []
      · have h := (if_neg c6).symm.trans h
        simp only [VW.down, Nat.reduceEqDiff, reduceCtorEq, Nat.reduceAdd, Nat.reduceLeDiff, Nat.reduceLT, Nat.reduceBEq, Nat.reduceSub, EE.down]
        refine condS (fun c7 => ?_) (fun c7 => ?_)
        · have h := (if_pos c7).symm.trans h
          simp only [VW.down, Nat.reduceEqDiff, reduceCtorEq, Nat.reduceAdd, Nat.reduceLeDiff, Nat.reduceLT, Nat.reduceBEq, Nat.reduceSub, EE.down]
          obtain rfl := Option.some.inj h
          exact eF []
        · have h := (if_neg c7).symm.trans h
          simp only [VW.down, Nat.reduceEqDiff, reduceCtorEq, Nat.reduceAdd, Nat.reduceLeDiff, Nat.reduceLT, Nat.reduceBEq, Nat.reduceSub, EE.down]
          obtain rfl := Option.some.inj h
          exact eF []

/- orchestrator/workqueue.byKey -/
def F40 (x0 : WorkItem) (x1 : WorkItem) : Option (Int) := (F61 x0.Key x1.Key).bind fun t1 => some t1
def a40 : AFn := ⟨10, [(.tmp 4)],
 (.seq (.reg [⟨(some 2), none, .box (.t 0), [], (.new [])⟩,
   ⟨(some 3), none, .box (.t 1), [], (.new [])⟩,
   ⟨(some 4), none, .mv (kI 0), [], (.new [])⟩])
 (.seq (.reg [⟨(some 5), none, .fieldA 0 (.t 2), [], (.new [])⟩,
   ⟨(some 6), none, .load none (.t 5), [], (.new [])⟩,
   ⟨(some 7), none, .fieldA 0 (.t 3), [], (.new [])⟩,
   ⟨(some 8), none, .load none (.t 7), [], (.new [])⟩,
   ⟨(some 9), none, .call 61 [(.t 6), (.t 8)], [], (.new [])⟩,
   ⟨(some 4), none, .mv (.t 9), [], (.new [])⟩])
 .ret))⟩
theorem a40_ok : afn Try.prog 40 = some a40.er := by kernel_rfl
theorem F40_ok {x0 : WorkItem} {x1 : WorkItem} {r : Int} (h : F40 x0 x1 = some r) : CallD Try.prog 40 [.agg [.d (.v (.string x0.Key)), .d (.v (.int .i64 x0.At))], .agg [.d (.v (.string x1.Key)), .d (.v (.int .i64 x1.At))]] [] (tupV [.c (.d (.v (.int .i64 r)))]) [] := by
  refine callS a40_ok (by simp [a40]) ?_
  rw [F40] at h
  simp only [a40, VW.down, Nat.reduceEqDiff, reduceCtorEq, Nat.reduceAdd, Nat.reduceLeDiff, Nat.reduceLT, Nat.reduceBEq, Nat.reduceSub, EE.down]
  obtain ⟨t1, ht1, h⟩ := Option.bind_eq_some_iff.1 h
  refine callX_n [] (F61_ok ht1) ?_ ?_ ?_ ?_ ?_ ?_
  · first | rfl | simp [nrmA, nrmC, nrm, A1.ren, C.ren, rn, List.length_set]
  · simp [liveAll, A1.live, C.live]
  · rfl
  · decide
  · exact trivial
  simp only [VW.down, Nat.reduceEqDiff, reduceCtorEq, Nat.reduceAdd, Nat.reduceLeDiff, Nat.reduceLT, Nat.reduceBEq, Nat.reduceSub, EE.down]
  obtain rfl := Option.some.inj h
  exact eF []

/- cmp.Or[int] -/
def F69_l1  : List Int → Nat → Option ((Int) ⊕ (Unit))
  | [], o1_0 => some (Sum.inr (()))
  | xo1 :: xs, o1_0 => (if ¬ (xo1 = 0) then (some xo1).map Sum.inl else F69_l1  xs (o1_0 + 1))
def F69 (x0 : (List Int)) : Option (Int) := (((ck (0 ≤ x0.length ∧ x0.length ≤ 4294967290)).bind fun u4 => F69_l1 x0 0).bind fun o1 => match o1 with | Sum.inl f => some f | Sum.inr po1 => some 0)
def a69 : AFn := ⟨18, [(.tmp 2)],
 (.seq (.reg [⟨(some 2), none, .mv (kI 0), [], (.new [])⟩])
 (.seq (.reg [⟨(some 3), none, .mv (kI 0), [], (.new [])⟩])
 (.seq (.seq (.reg [⟨(some 6), none, .mv (.t 0), [], (.new [])⟩,
   ⟨(some 7), none, .len (.t 6), [], (.new [])⟩,
   ⟨(some 8), none, .mv (kI 0), [], (.new [])⟩])
 (.sem (.block 0 (.loop (.seq (.reg [⟨(some 9), none, .bin .lss (.t 8) (.t 7), [], (.new [])⟩])
 (.seq (.cond (.t 9)
 .skip
 (.exit 0))
 (.seq (.block 1 (.seq (.reg [⟨(some 10), none, .indexA 1 (.t 6) (.t 8), [], (.new [])⟩,
   ⟨(some 11), none, .load none (.t 10), [], (.new [])⟩,
   ⟨(some 5), none, .mv (.t 11), [], (.new [])⟩])
 (.seq (.reg [⟨(some 12), none, .mv (.t 5), [], (.new [])⟩,
   ⟨(some 13), none, .mv (.t 3), [], (.new [])⟩,
   ⟨(some 14), none, .bin .neq (.t 12) (.t 13), [], (.new [])⟩])
 (.cond (.t 14)
 (.seq (.reg [⟨(some 15), none, .mv (.t 5), [], (.new [])⟩,
   ⟨(some 2), none, .mv (.t 15), [], (.new [])⟩])
 .ret)
 .skip))))
 (.reg [⟨(some 16), none, .bin .add (.t 8) (kI 1), [], (.new [])⟩,
   ⟨(some 8), none, .mv (.t 16), [], (.new [])⟩]))))))))
 (.seq (.reg [⟨(some 17), none, .mv (.t 3), [], (.new [])⟩,
   ⟨(some 2), none, .mv (.t 17), [], (.new [])⟩])
 .ret))))⟩
theorem a69_ok : afn Try.prog 69 = some a69.er := by kernel_rfl
theorem F69_ok {x0 : (List Int)} {r : Int} (h : F69 x0 = some r) : CallD Try.prog 69 [.c (.d (.sl (x0.map eI)))] [] (tupV [.c (.d (.v (.int .i64 r)))]) [] := by
  refine callS a69_ok (by simp [a69]) ?_
  rw [F69] at h
  simp only [a69, VW.down, Nat.reduceEqDiff, reduceCtorEq, Nat.reduceAdd, Nat.reduceLeDiff, Nat.reduceLT, Nat.reduceBEq, Nat.reduceSub, EE.down]
  obtain ⟨o1, ho, h⟩ := Option.bind_eq_some_iff.1 h
  refine cutS (fun s => ∃ po1, o1 = Sum.inr po1 ∧ s = ⟨[(3, .one (.c (.d (.v (.int .i64 0)))))], []⟩) ?_ ?_
  · have h0o1 := h
    have h := ho
    clear ho
    obtain ⟨_, hk, h⟩ := Option.bind_eq_some_iff.1 h
    have hk := ck_some hk
    simp only [VW.down, Nat.reduceEqDiff, reduceCtorEq, Nat.reduceAdd, Nat.reduceLeDiff, Nat.reduceLT, Nat.reduceBEq, Nat.reduceSub, EE.down]
    refine bL (fun j s => ∃ (o1_0 : Nat), (o1_0 ≤ x0.length ∧ j = x0.length - o1_0) ∧ s = ⟨[(3, .one (.c (.d (.v (.int .i64 0))))), (6, .one (.c (.d (.sl (x0.map eI))))), (7, .one (.c (.d (.v (.int .i64 ((x0.length : Int))))))), (8, .one (.c (.d (.v (.int .i64 ((o1_0 : Int)))))))], []⟩ ∧ F69_l1 (x0.drop o1_0) o1_0 = some o1) (x0.length - 0) [] ⟨0, ⟨hk.1, rfl⟩, rfl, h⟩ ?_
    rintro _ _ ⟨o1_0, ⟨hi, rfl⟩, rfl, h⟩
    simp only [VW.down, Nat.reduceEqDiff, reduceCtorEq, Nat.reduceAdd, Nat.reduceLeDiff, Nat.reduceLT, Nat.reduceBEq, Nat.reduceSub, EE.down]
    refine condS (fun c2 => ?_) (fun c2 => ?_)
    · obtain ⟨xo1, hxo1, hd⟩ := countY c2
      rw [hd, F69_l1] at h
      simp only [VW.down, Nat.reduceEqDiff, reduceCtorEq, Nat.reduceAdd, Nat.reduceLeDiff, Nat.reduceLT, Nat.reduceBEq, Nat.reduceSub, EE.down]
      refine t_idxF (enc := eI) (xs := x0) rfl rfl hxo1 rfl ?_
      simp only [VW.down, Nat.reduceEqDiff, reduceCtorEq, Nat.reduceAdd, Nat.reduceLeDiff, Nat.reduceLT, Nat.reduceBEq, Nat.reduceSub, EE.down]
      refine condS (fun c3 => ?_) (fun c3 => ?_)
      · have h := (if_pos c3).symm.trans h
        simp only [VW.down, Nat.reduceEqDiff, reduceCtorEq, Nat.reduceAdd, Nat.reduceLeDiff, Nat.reduceLT, Nat.reduceBEq, Nat.reduceSub, EE.down]
        obtain ⟨fh0o1, hfh0o1, rfl⟩ := Option.map_eq_some_iff.1 h
        have h := hfh0o1.trans h0o1
        obtain rfl := Option.some.inj h
        exact eF []
      · have h := (if_neg c3).symm.trans h
        simp only [VW.down, Nat.reduceEqDiff, reduceCtorEq, Nat.reduceAdd, Nat.reduceLeDiff, Nat.reduceLT, Nat.reduceBEq, Nat.reduceSub, EE.down]
        rw [wrapN (by omega)]
        exact eL' (x0.length - (o1_0 + 1)) [] ⟨o1_0 + 1, ⟨by omega, rfl⟩, rfl, h⟩ (by omega)
    · rw [countN c2, F69_l1] at h
      simp only [VW.down, Nat.reduceEqDiff, reduceCtorEq, Nat.reduceAdd, Nat.reduceLeDiff, Nat.reduceLT, Nat.reduceBEq, Nat.reduceSub, EE.down]
      obtain rfl := Option.some.inj h
      exact eM [] ⟨_, rfl, rfl⟩
  · rintro _ ⟨po1, rfl, rfl⟩
    clear ho
    dsimp only at h
    simp only [VW.down, Nat.reduceEqDiff, reduceCtorEq, Nat.reduceAdd, Nat.reduceLeDiff, Nat.reduceLT, Nat.reduceBEq, Nat.reduceSub, EE.down]
    obtain rfl := Option.some.inj h
    exact eF []

/- orchestrator/workqueue.byTime -/
def F49 (x0 : WorkItem) (x1 : WorkItem) : Option (Int) := (F70 x0.At x1.At).bind fun t1 => (F40 x0 x1).bind fun t2 => (F69 ([t1, t2])).bind fun t3 => some t3
def a49 : AFn := ⟨15, [(.tmp 4)],
 (.seq (.reg [⟨(some 2), none, .box (.t 0), [], (.new [])⟩,
   ⟨(some 3), none, .box (.t 1), [], (.new [])⟩,
   ⟨(some 4), none, .mv (kI 0), [], (.new [])⟩])
 (.seq (.regd [⟨(some 5), none, .fieldA 1 (.t 2), [], (.new [])⟩,
   ⟨(some 6), none, .load none (.t 5), [0], (.new [])⟩,
   ⟨(some 7), none, .fieldA 1 (.t 3), [], (.new [])⟩,
   ⟨(some 8), none, .load none (.t 7), [2], (.new [])⟩,
   ⟨(some 9), none, .call 70 [(.t 6), (.t 8)], [0, 1, 2, 3], (.new [0, 1, 2, 3])⟩,
   ⟨(some 10), none, .load (some 2) (.t 2), [], (.new [])⟩,
   ⟨(some 11), none, .load (some 2) (.t 3), [], (.new [])⟩,
   ⟨(some 12), none, .call 40 [(.t 10), (.t 11)], [0, 1, 2, 3, 4, 5, 6], (.lone [])⟩,
   ⟨(some 13), none, .bslice 1 [(.t 9), (.t 12)], [0, 1, 2, 3, 4, 5, 6, 7], (.lone [])⟩,
   ⟨(some 14), none, .call 69 [(.t 13)], [0, 1, 2, 3, 4, 5, 6, 7, 8], (.lone [])⟩,
   ⟨(some 4), none, .mv (.t 14), [0, 1, 2, 3, 4, 5, 6, 7, 8, 9], (.new [])⟩])
 .ret))⟩
theorem a49_ok : afn Try.prog 49 = some a49.er := by kernel_rfl
theorem F49_ok {x0 : WorkItem} {x1 : WorkItem} {r : Int} (h : F49 x0 x1 = some r) : CallD Try.prog 49 [.agg [.d (.v (.string x0.Key)), .d (.v (.int .i64 x0.At))], .agg [.d (.v (.string x1.Key)), .d (.v (.int .i64 x1.At))]] [] (tupV [.c (.d (.v (.int .i64 r)))]) [] := by
  refine callS a49_ok (by simp [a49]) ?_
  rw [F49] at h
  simp only [a49, VW.down, Nat.reduceEqDiff, reduceCtorEq, Nat.reduceAdd, Nat.reduceLeDiff, Nat.reduceLT, Nat.reduceBEq, Nat.reduceSub, EE.down]
  obtain ⟨t1, ht1, h⟩ := Option.bind_eq_some_iff.1 h
  refine callX_n [] (F70_ok ht1) ?_ ?_ ?_ ?_ ?_ ?_
  · first | rfl | simp [nrmA, nrmC, nrm, A1.ren, C.ren, rn, List.length_set]
  · simp [liveAll, A1.live, C.live]
  · rfl
  · decide
  · exact trivial
  simp only [VW.down, Nat.reduceEqDiff, reduceCtorEq, Nat.reduceAdd, Nat.reduceLeDiff, Nat.reduceLT, Nat.reduceBEq, Nat.reduceSub, EE.down]
  obtain ⟨t2, ht2, h⟩ := Option.bind_eq_some_iff.1 h
  refine callX_n [] (F40_ok ht2) ?_ ?_ ?_ ?_ ?_ ?_
  · first | rfl | simp [nrmA, nrmC, nrm, A1.ren, C.ren, rn, List.length_set]
  · simp [liveAll, A1.live, C.live]
  · rfl
  · decide
  · exact trivial
  simp only [VW.down, Nat.reduceEqDiff, reduceCtorEq, Nat.reduceAdd, Nat.reduceLeDiff, Nat.reduceLT, Nat.reduceBEq, Nat.reduceSub, EE.down]
  refine t_bslice (enc := eI) (ys := [t1, t2]) rfl rfl (by simp [A1.cells]) rfl ?_
  simp only [VW.down, Nat.reduceEqDiff, reduceCtorEq, Nat.reduceAdd, Nat.reduceLeDiff, Nat.reduceLT, Nat.reduceBEq, Nat.reduceSub, EE.down]
  obtain ⟨t3, ht3, h⟩ := Option.bind_eq_some_iff.1 h
  refine callX_bor (F69_ok ht3) (by simp only [borAs, bors, hp, List.getElem?_cons_zero, List.getElem?_cons_succ, Option.join_some, List.drop_zero, bor_full', true_and, Nat.zero_add, List.length_map, Nat.le_refl, nrm, List.length_cons, List.length_nil, Nat.reduceAdd, Nat.reduceLeDiff, List.take_succ_cons, List.take_zero, List.take_nil, List.map_cons, List.map_nil, List.length_set, EE.down]) rfl ?_
  simp only [VW.down, Nat.reduceEqDiff, reduceCtorEq, Nat.reduceAdd, Nat.reduceLeDiff, Nat.reduceLT, Nat.reduceBEq, Nat.reduceSub, EE.down]
  obtain rfl := Option.some.inj h
  exact eF []

/- slices.BinarySearchFunc[[]orchestrator/api.WorkItem,orchestrator/api.WorkItem,orchestrator/api.WorkItem] -/
def F66_l1 (x0 : (List WorkItem)) (x1 : WorkItem) : Nat → Int → Int → Option (Int)
  | 0, _, _ => none
  | k + 1, o1_0, o1_1 => (if o1_0 < o1_1 then (rdI x0 ((IntKind.i64.wrap ((shrV .u64 ((IntKind.u64.wrap ((IntKind.i64.wrap (o1_0 + o1_1))))) 1))))).bind fun y3 => (F49 y3 x1).bind fun t4 => (if t4 < 0 then F66_l1 x0 x1 k ((IntKind.i64.wrap (((IntKind.i64.wrap ((shrV .u64 ((IntKind.u64.wrap ((IntKind.i64.wrap (o1_0 + o1_1))))) 1)))) + 1))) o1_1 else F66_l1 x0 x1 k o1_0 ((IntKind.i64.wrap ((shrV .u64 ((IntKind.u64.wrap ((IntKind.i64.wrap (o1_0 + o1_1))))) 1))))) else some o1_0)
def F66 (x0 : (List WorkItem)) (x1 : WorkItem) : Option (Int × Bool) := ((F66_l1 x0 x1 1099511627776 0 ((x0.length : Int))).bind fun o1 => (((if o1 < (x0.length : Int) then (rdI x0 o1).bind fun y8 => (F49 y8 x1).bind fun t9 => some (decide (t9 = 0)) else some false)).bind fun o6 => some ((o1, o6))))
def a66 : AFn := ⟨49, [(.tmp 6), (.tmp 7)],
 (.seq (.reg [⟨(some 4), none, .box (.t 1), [], (.new [])⟩,
   ⟨(some 6), none, .mv (kI 0), [], (.new [])⟩,
   ⟨(some 7), none, .mv (kB false), [], (.new [])⟩])
 (.seq (.reg [⟨(some 12), none, .mv (.t 0), [], (.new [])⟩,
   ⟨(some 13), none, .len (.t 12), [], (.new [])⟩,
   ⟨(some 8), none, .mv (.t 13), [], (.new [])⟩])
 (.seq (.reg [⟨(some 14), none, .mv (.t 8), [], (.new [])⟩,
   ⟨(some 9), none, .mv (kI 0), [], (.new [])⟩,
   ⟨(some 10), none, .mv (.t 14), [], (.new [])⟩])
 (.seq (.sem (.block 0 (.loop (.seq (.seq (.reg [⟨(some 15), none, .mv (.t 9), [], (.new [])⟩,
   ⟨(some 16), none, .mv (.t 10), [], (.new [])⟩,
   ⟨(some 17), none, .bin .lss (.t 15) (.t 16), [], (.new [])⟩])
 (.cond (.t 17)
 .skip
 (.exit 0)))
 (.block 1 (.seq (.reg [⟨(some 18), none, .mv (.t 9), [], (.new [])⟩,
   ⟨(some 19), none, .mv (.t 10), [], (.new [])⟩,
   ⟨(some 20), none, .bin .add (.t 18) (.t 19), [], (.new [])⟩,
   ⟨(some 21), none, .conv .u64 (.t 20), [], (.new [])⟩,
   ⟨(some 22), none, .bin .shr (.t 21) (.k (.c (.d (.v (.int .u64 1))))), [], (.new [])⟩,
   ⟨(some 23), none, .conv .i64 (.t 22), [], (.new [])⟩,
   ⟨(some 11), none, .mv (.t 23), [], (.new [])⟩])
 (.seq (.regd [⟨(some 24), none, .mv (.t 2), [], (.new [])⟩,
   ⟨(some 25), none, .mv (.t 0), [], (.new [])⟩,
   ⟨(some 26), none, .mv (.t 11), [], (.new [])⟩,
   ⟨(some 27), none, .indexA 2 (.t 25) (.t 26), [1, 2], (.new [])⟩,
   ⟨(some 28), none, .load (some 2) (.t 27), [1, 2, 3], (.new [])⟩,
   ⟨(some 29), none, .load (some 2) (.t 4), [], (.new [])⟩,
   ⟨(some 30), none, .callv (.t 24) [(.t 28), (.t 29)], [0, 1, 2, 3, 4, 5], (.lone [])⟩,
   ⟨(some 31), none, .bin .lss (.t 30) (kI 0), [0, 1, 2, 3, 4, 5, 6], (.new [])⟩])
 (.cond (.t 31)
 (.reg [⟨(some 32), none, .mv (.t 11), [], (.new [])⟩,
   ⟨(some 33), none, .bin .add (.t 32) (kI 1), [], (.new [])⟩,
   ⟨(some 9), none, .mv (.t 33), [], (.new [])⟩])
 (.reg [⟨(some 34), none, .mv (.t 11), [], (.new [])⟩,
   ⟨(some 10), none, .mv (.t 34), [], (.new [])⟩])))))))))
 (.seq (.sem (.regd [⟨(some 35), none, .mv (.t 9), [], (.new [])⟩,
   ⟨(some 36), none, .mv (.t 9), [], (.new [])⟩,
   ⟨(some 37), none, .mv (.t 8), [], (.new [])⟩,
   ⟨(some 38), none, .bin .lss (.t 36) (.t 37), [1, 2], (.new [])⟩,
   ⟨(some 39), none, .mv (.t 38), [1, 2, 3], (.new [])⟩,
   ⟨(some 40), (some (39, true)), .mv (.t 2), [1, 2, 3, 4], (.new [])⟩,
   ⟨(some 41), (some (39, true)), .mv (.t 0), [1, 2, 3, 4], (.new [])⟩,
   ⟨(some 42), (some (39, true)), .mv (.t 9), [1, 2, 3, 4], (.new [])⟩,
   ⟨(some 43), (some (39, true)), .indexA 2 (.t 41) (.t 42), [1, 2, 3, 4, 6, 7], (.new [])⟩,
   ⟨(some 44), (some (39, true)), .load (some 2) (.t 43), [1, 2, 3, 4, 6, 7, 8], (.new [])⟩,
   ⟨(some 45), (some (39, true)), .load (some 2) (.t 4), [1, 2, 3, 4], (.new [])⟩,
   ⟨(some 46), (some (39, true)), .callv (.t 40) [(.t 44), (.t 45)], [1, 2, 3, 4, 5, 6, 7, 8, 9, 10], (.lone [])⟩,
   ⟨(some 47), (some (39, true)), .bin .eql (.t 46) (kI 0), [1, 2, 3, 4, 5, 6, 7, 8, 9, 10, 11], (.new [])⟩,
   ⟨(some 48), none, .pick (.t 39) (.t 47) (kB false), [1, 2, 3, 4, 5, 6, 7, 8, 9, 10, 11, 12], (.new [])⟩,
   ⟨(some 6), none, .mv (.t 35), [0, 1, 2, 3, 4, 5, 6, 7, 8, 9, 10, 11], (.new [])⟩,
   ⟨(some 7), none, .mv (.t 48), [0, 1, 2, 3, 4, 5, 6, 7, 8, 9, 10, 11, 12, 13, 14], (.new [])⟩]))
 .ret)))))⟩
theorem a66_ok : afn Try.prog 66 = some a66.er := by kernel_rfl
theorem F66_ok {x0 : (List WorkItem)} {x1 : WorkItem} {r : Int × Bool} (h : F66 x0 x1 = some r) : CallD Try.prog 66 [.c (.d (.sl (x0.map eWorkItem))), .agg [.d (.v (.string x1.Key)), .d (.v (.int .i64 x1.At))], .c (.fn 49 [])] [] (tupV [.c (.d (.v (.int .i64 r.1))), .c (.d (.v (.bool r.2)))]) [] := by
  refine callS a66_ok (by simp [a66]) ?_
  rw [F66] at h
  simp only [a66, VW.down, Nat.reduceEqDiff, reduceCtorEq, Nat.reduceAdd, Nat.reduceLeDiff, Nat.reduceLT, Nat.reduceBEq, Nat.reduceSub, EE.down]
  obtain ⟨o1, ho, h⟩ := Option.bind_eq_some_iff.1 h
  refine cutS (fun s => s = ⟨[(0, .one (.c (.d (.sl (x0.map eWorkItem))))), (2, .one (.c (.fn 49 []))), (4, .one (.c (.pt 0 0))), (8, .one (.c (.d (.v (.int .i64 ((x0.length : Int))))))), (9, .one (.c (.d (.v (.int .i64 o1)))))], [some (.box [.d (.v (.string x1.Key)), .d (.v (.int .i64 x1.At))])]⟩) ?_ ?_
  · have h := ho
    clear ho
    simp only [VW.down, Nat.reduceEqDiff, reduceCtorEq, Nat.reduceAdd, Nat.reduceLeDiff, Nat.reduceLT, Nat.reduceBEq, Nat.reduceSub, EE.down]
    refine bL (fun j s => ∃ (o1_0 : Int) (o1_1 : Int), s = ⟨[(0, .one (.c (.d (.sl (x0.map eWorkItem))))), (2, .one (.c (.fn 49 []))), (4, .one (.c (.pt 0 0))), (8, .one (.c (.d (.v (.int .i64 ((x0.length : Int))))))), (9, .one (.c (.d (.v (.int .i64 o1_0))))), (10, .one (.c (.d (.v (.int .i64 o1_1)))))], [some (.box [.d (.v (.string x1.Key)), .d (.v (.int .i64 x1.At))])]⟩ ∧ F66_l1 x0 x1 j o1_0 o1_1 = some o1) 1099511627776 [some 0] ⟨0, (x0.length : Int), rfl, h⟩ ?_
    rintro j _ ⟨o1_0, o1_1, rfl, h⟩
    cases j with
    | zero => cases (show (none : Option _) = some _ from h)
    | succ j =>
      rw [F66_l1] at h
      simp only [VW.down, Nat.reduceEqDiff, reduceCtorEq, Nat.reduceAdd, Nat.reduceLeDiff, Nat.reduceLT, Nat.reduceBEq, Nat.reduceSub, EE.down]
      refine condS (fun c2 => ?_) (fun c2 => ?_)
      · have h := (if_pos c2).symm.trans h
        simp only [VW.down, Nat.reduceEqDiff, reduceCtorEq, Nat.reduceAdd, Nat.reduceLeDiff, Nat.reduceLT, Nat.reduceBEq, Nat.reduceSub, EE.down]
        refine ⟨by decide, ?_⟩
        try simp only [VW.down, Nat.reduceEqDiff, reduceCtorEq, Nat.reduceAdd, Nat.reduceLeDiff, Nat.reduceLT, Nat.reduceBEq, Nat.reduceSub, EE.down]
        obtain ⟨y3, hy3, h⟩ := Option.bind_eq_some_iff.1 h
        refine t_idxF (enc := eWorkItem) (xs := x0) rfl rfl hy3 rfl ?_
        simp only [VW.down, Nat.reduceEqDiff, reduceCtorEq, Nat.reduceAdd, Nat.reduceLeDiff, Nat.reduceLT, Nat.reduceBEq, Nat.reduceSub, EE.down]
        obtain ⟨t4, ht4, h⟩ := Option.bind_eq_some_iff.1 h
        refine callX_n [] (F49_ok ht4) ?_ ?_ ?_ ?_ ?_ ?_
        · first | rfl | simp [nrmA, nrmC, nrm, A1.ren, C.ren, rn, List.length_set]
        · simp [liveAll, A1.live, C.live]
        · rfl
        · decide
        · exact trivial
        simp only [VW.down, Nat.reduceEqDiff, reduceCtorEq, Nat.reduceAdd, Nat.reduceLeDiff, Nat.reduceLT, Nat.reduceBEq, Nat.reduceSub, EE.down]
        refine condS (fun c5 => ?_) (fun c5 => ?_)
        · have h := (if_pos c5).symm.trans h
          simp only [VW.down, Nat.reduceEqDiff, reduceCtorEq, Nat.reduceAdd, Nat.reduceLeDiff, Nat.reduceLT, Nat.reduceBEq, Nat.reduceSub, EE.down]
          exact eL' j [some 0] ⟨(IntKind.i64.wrap (((IntKind.i64.wrap ((shrV .u64 ((IntKind.u64.wrap ((IntKind.i64.wrap (o1_0 + o1_1))))) 1)))) + 1)), o1_1, rfl, h⟩ (Nat.lt_succ_self _)
        · have h := (if_neg c5).symm.trans h
          simp only [VW.down, Nat.reduceEqDiff, reduceCtorEq, Nat.reduceAdd, Nat.reduceLeDiff, Nat.reduceLT, Nat.reduceBEq, Nat.reduceSub, EE.down]
          exact eL' j [some 0] ⟨o1_0, (IntKind.i64.wrap ((shrV .u64 ((IntKind.u64.wrap ((IntKind.i64.wrap (o1_0 + o1_1))))) 1))), rfl, h⟩ (Nat.lt_succ_self _)
      · have h := (if_neg c2).symm.trans h
        simp only [VW.down, Nat.reduceEqDiff, reduceCtorEq, Nat.reduceAdd, Nat.reduceLeDiff, Nat.reduceLT, Nat.reduceBEq, Nat.reduceSub, EE.down]
        obtain rfl := Option.some.inj h
        exact eM [some 0] rfl
  · rintro _ rfl
    clear ho
    simp only [VW.down, Nat.reduceEqDiff, reduceCtorEq, Nat.reduceAdd, Nat.reduceLeDiff, Nat.reduceLT, Nat.reduceBEq, Nat.reduceSub, EE.down]
    obtain ⟨o6, ho, h⟩ := Option.bind_eq_some_iff.1 h
    refine cutS (fun s => s = ⟨[(6, .one (.c (.d (.v (.int .i64 o1))))), (7, .one (.c (.d (.v (.bool o6)))))], []⟩) ?_ ?_
    · have h := ho
      clear ho
      simp only [VW.down, Nat.reduceEqDiff, reduceCtorEq, Nat.reduceAdd, Nat.reduceLeDiff, Nat.reduceLT, Nat.reduceBEq, Nat.reduceSub, EE.down]
      refine guardD (fun g7 => ?_) (fun g7 => ?_)
      · have h := (if_pos g7).symm.trans h
        simp only [VW.down, Nat.reduceEqDiff, reduceCtorEq, Nat.reduceAdd, Nat.reduceLeDiff, Nat.reduceLT, Nat.reduceBEq, Nat.reduceSub, EE.down]
        obtain ⟨y8, hy8, h⟩ := Option.bind_eq_some_iff.1 h
        refine t_idxF (enc := eWorkItem) (xs := x0) rfl rfl hy8 rfl ?_
        simp only [VW.down, Nat.reduceEqDiff, reduceCtorEq, Nat.reduceAdd, Nat.reduceLeDiff, Nat.reduceLT, Nat.reduceBEq, Nat.reduceSub, EE.down]
        obtain ⟨t9, ht9, h⟩ := Option.bind_eq_some_iff.1 h
        refine callX_n [] (F49_ok ht9) ?_ ?_ ?_ ?_ ?_ ?_
        · first | rfl | simp [nrmA, nrmC, nrm, A1.ren, C.ren, rn, List.length_set]
        · simp [liveAll, A1.live, C.live]
        · rfl
        · decide
        · exact trivial
        simp only [VW.down, Nat.reduceEqDiff, reduceCtorEq, Nat.reduceAdd, Nat.reduceLeDiff, Nat.reduceLT, Nat.reduceBEq, Nat.reduceSub, EE.down]
        obtain rfl := Option.some.inj h
        exact eM [] rfl
      · have h := (if_neg g7).symm.trans h
        simp only [VW.down, Nat.reduceEqDiff, reduceCtorEq, Nat.reduceAdd, Nat.reduceLeDiff, Nat.reduceLT, Nat.reduceBEq, Nat.reduceSub, EE.down]
        obtain rfl := Option.some.inj h
        exact eM [] rfl
    · rintro _ rfl
      clear ho
      simp only [VW.down, Nat.reduceEqDiff, reduceCtorEq, Nat.reduceAdd, Nat.reduceLeDiff, Nat.reduceLT, Nat.reduceBEq, Nat.reduceSub, EE.down]
      obtain rfl := Option.some.inj h
      exact eF []

/- (*orchestrator/workqueue.sorted[orchestrator/api.WorkItem]).find -/
def F41 (x1 : WorkItem) (b0_0 : (List WorkItem)) : Option (Int × Bool) := (F66 b0_0 x1).bind fun t1 => some ((t1.1, t1.2))
def a41 : AFn := ⟨18, [(.tmp 4), (.tmp 5)],
 (.seq (.reg [⟨(some 3), none, .box (.t 1), [], (.new [])⟩,
   ⟨(some 4), none, .mv (kI 0), [], (.new [])⟩,
   ⟨(some 5), none, .mv (kB false), [], (.new [])⟩])
 (.seq (.regd [⟨(some 6), none, .mv (.t 0), [], (.new [])⟩,
   ⟨(some 7), none, .fieldA 0 (.t 6), [0], (.new [])⟩,
   ⟨(some 8), none, .fieldA 0 (.t 7), [0, 1], (.new [])⟩,
   ⟨(some 9), none, .load none (.t 8), [0, 1, 2], (.new [])⟩,
   ⟨(some 10), none, .load (some 2) (.t 3), [], (.new [])⟩,
   ⟨(some 11), none, .mv (.t 0), [], (.new [])⟩,
   ⟨(some 12), none, .fieldA 0 (.t 11), [5], (.new [])⟩,
   ⟨(some 13), none, .fieldA 1 (.t 12), [5, 6], (.new [])⟩,
   ⟨(some 14), none, .load none (.t 13), [5, 6, 7], (.new [])⟩,
   ⟨(some 15), none, .call 66 [(.t 9), (.t 10), (.t 14)], [0, 1, 2, 3, 4, 5, 6, 7, 8], (.lone [])⟩,
   ⟨(some 16), none, .ext (.t 15) 0, [0, 1, 2, 3, 4, 5, 6, 7, 8, 9], (.new [])⟩,
   ⟨(some 17), none, .ext (.t 15) 1, [0, 1, 2, 3, 4, 5, 6, 7, 8, 9], (.new [])⟩,
   ⟨(some 4), none, .mv (.t 16), [0, 1, 2, 3, 4, 5, 6, 7, 8, 9, 10, 11], (.new [])⟩,
   ⟨(some 5), none, .mv (.t 17), [0, 1, 2, 3, 4, 5, 6, 7, 8, 9, 10, 11, 12], (.new [])⟩])
 .ret))⟩
theorem a41_ok : afn Try.prog 41 = some a41.er := by kernel_rfl
theorem F41_ok {x1 : WorkItem} {b0_0 : (List WorkItem)} {r : Int × Bool} {e1 : Nat} (h : F41 x1 b0_0 = some r) : CallD Try.prog 41 [.c (.pt 0 0), .agg [.d (.v (.string x1.Key)), .d (.v (.int .i64 x1.At))]] [some (.box [.own 1 e1 0 (b0_0.length) none, .fn 49 []]), some (.arr e1 2 (b0_0.map eWorkItem))] (tupV [.c (.d (.v (.int .i64 r.1))), .c (.d (.v (.bool r.2)))]) [some (.box [.own 1 e1 0 (b0_0.length) none, .fn 49 []]), some (.arr e1 2 (b0_0.map eWorkItem))] := by
  refine callS a41_ok (by simp [a41]) ?_
  rw [F41] at h
  simp only [a41, VW.down, Nat.reduceEqDiff, reduceCtorEq, Nat.reduceAdd, Nat.reduceLeDiff, Nat.reduceLT, Nat.reduceBEq, Nat.reduceSub, EE.down]
  obtain ⟨t1, ht1, h⟩ := Option.bind_eq_some_iff.1 h
  refine callX_bor (F66_ok ht1) (by simp only [borAs, bors, hp, List.getElem?_cons_zero, List.getElem?_cons_succ, Option.join_some, List.drop_zero, bor_full', true_and, Nat.zero_add, List.length_map, Nat.le_refl, nrm, List.length_cons, List.length_nil, Nat.reduceAdd, Nat.reduceLeDiff, List.take_succ_cons, List.take_zero, List.take_nil, List.map_cons, List.map_nil, List.length_set, EE.down]) rfl ?_
  simp only [VW.down, Nat.reduceEqDiff, reduceCtorEq, Nat.reduceAdd, Nat.reduceLeDiff, Nat.reduceLT, Nat.reduceBEq, Nat.reduceSub, EE.down]
  obtain rfl := Option.some.inj h
  exact eF [some 0, some 1]

/- slices.overlaps[orchestrator/api.WorkItem] -/
noncomputable def fn75 : Func := (Try.prog.funcs[75]?).getD default
theorem fn75_ok : Try.prog.funcs[75]? = some fn75 := by kernel_rfl
theorem ov75 (e0 e1 o0 o1 l0 l1 : Nat) (c0 c1 : Option Nat) (r0 r1 : List (List D)) :
    CallD Try.prog 75 [.c (.own 0 e0 o0 l0 c0), .c (.own 1 e1 o1 l1 c1)] [some (.arr e0 2 r0), some (.arr e1 2 r1)] (.one (aB false)) [some (.arr e0 2 r0), some (.arr e1 2 r1)] :=
  ovl_callD (tS := 26) (tT := 4) (e := 42) (ps := #[26, 26]) (rs := #[4]) fn75_ok (by kernel_rfl) (by kernel_rfl) (by kernel_rfl) (by kernel_rfl) rfl rfl (by kernel_rfl) (by kernel_rfl) e0 e1 o0 o1 l0 l1 c0 c1 r0 r1

/- slices.Insert[[]orchestrator/api.WorkItem,orchestrator/api.WorkItem] -/
theorem a67_ok : afn Try.prog 67 = some (insertA 2 24 [.v (.string ⟨#[]⟩), .v (.int .i64 0)] 75 76) := by kernel_rfl
theorem F67_ok {x0 r : List WorkItem} {i : Int} {x : WorkItem} {e0 e1 : Nat} (h : insI x0 i x = some r) : CallD Try.prog 67 [.c (.own 0 e0 0 x0.length none), aI i, .c (.own 1 e1 0 [x].length none)] [some (.arr e0 2 (x0.map eWorkItem)), some (.arr e1 2 ([x].map eWorkItem))] (tupV [.c (.own 0 (e0 + 1) 0 r.length none)]) [some (.arr (e0 + 1) 2 (r.map eWorkItem)), some (.arr e1 2 ([x].map eWorkItem))] := L_insert a67_ok ov75 (fun _ => rfl) h

/- (*orchestrator/workqueue.sorted[orchestrator/api.WorkItem]).insert -/
def F42 (x1 : WorkItem) (b0_0 : (List WorkItem)) : Option ((List WorkItem)) := (F41 x1 b0_0).bind fun t1 => (if t1.2 = true then some b0_0 else (insI b0_0 t1.1 x1).bind fun t3 => some t3)
def a42 : AFn := ⟨26, [(.tmp 4)],
 (.seq (.reg [⟨(some 3), none, .box (.t 1), [], (.new [])⟩,
   ⟨(some 4), none, .mv kN, [], (.new [])⟩])
 (.seq (.reg [⟨(some 8), none, .mv (.t 0), [], (.new [])⟩,
   ⟨(some 9), none, .load (some 2) (.t 3), [], (.new [])⟩,
   ⟨(some 10), none, .call 41 [(.t 8), (.t 9)], [], (.new [])⟩,
   ⟨(some 7), none, .mv (.t 10), [], (.new [])⟩,
   ⟨(some 11), none, .ext (.t 7) 0, [], (.new [])⟩,
   ⟨(some 12), none, .ext (.t 7) 1, [], (.new [])⟩,
   ⟨(some 5), none, .mv (.t 11), [], (.new [])⟩,
   ⟨(some 6), none, .mv (.t 12), [], (.new [])⟩])
 (.seq (.seq (.reg [⟨(some 13), none, .mv (.t 6), [], (.new [])⟩])
 (.cond (.t 13)
 (.seq (.reg [⟨(some 14), none, .mv (.t 0), [], (.new [])⟩,
   ⟨(some 15), none, .fieldA 0 (.t 14), [], (.new [])⟩,
   ⟨(some 16), none, .fieldA 0 (.t 15), [], (.new [])⟩,
   ⟨(some 17), none, .load none (.t 16), [], (.new [])⟩,
   ⟨(some 4), none, .mv (.t 17), [], (.new [])⟩])
 .ret)
 .skip))
 (.seq (.regd [⟨(some 18), none, .mv (.t 0), [], (.new [])⟩,
   ⟨(some 19), none, .fieldA 0 (.t 18), [0], (.new [])⟩,
   ⟨(some 20), none, .fieldA 0 (.t 19), [0, 1], (.new [])⟩,
   ⟨(some 21), none, .load none (.t 20), [0, 1, 2], (.new [])⟩,
   ⟨(some 22), none, .mv (.t 5), [], (.new [])⟩,
   ⟨(some 23), none, .load (some 2) (.t 3), [], (.new [])⟩,
   ⟨(some 24), none, .bslice 2 [(.t 23)], [5], (.lone [18, 19, 20])⟩,
   ⟨(some 25), none, .call 67 [(.t 21), (.t 22), (.t 24)], [0, 1, 2, 3, 4, 5, 6], (.lone [])⟩,
   ⟨(some 4), none, .mv (.t 25), [0, 1, 2, 3, 4, 5, 6, 7], (.new [])⟩])
 .ret))))⟩
theorem a42_ok : afn Try.prog 42 = some a42.er := by kernel_rfl
theorem F42_ok {x1 : WorkItem} {b0_0 : (List WorkItem)} {r : (List WorkItem)} {e1 : Nat} (h : F42 x1 b0_0 = some r) : CallD Try.prog 42 [.c (.pt 0 0), .agg [.d (.v (.string x1.Key)), .d (.v (.int .i64 x1.At))]] [some (.box [.own 1 e1 0 (b0_0.length) none, .fn 49 []]), some (.arr e1 2 (b0_0.map eWorkItem))] (tupV [.c (.own 1 (e1 + 2) 0 (r.length) none)]) [some (.box [.own 1 e1 0 0 (some 0), .fn 49 []]), some (.arr (e1 + 2) 2 (r.map eWorkItem))] := by
  refine callS a42_ok (by simp [a42]) ?_
  rw [F42] at h
  simp only [a42, VW.down, Nat.reduceEqDiff, reduceCtorEq, Nat.reduceAdd, Nat.reduceLeDiff, Nat.reduceLT, Nat.reduceBEq, Nat.reduceSub, EE.down]
  obtain ⟨t1, ht1, h⟩ := Option.bind_eq_some_iff.1 h
  refine callX_n [0, 1] (F41_ok (e1 := e1) ht1) ?_ ?_ ?_ ?_ ?_ ?_
  · first | rfl | simp [nrmA, nrmC, nrm, A1.ren, C.ren, rn, List.length_set]
  · simp [liveAll, A1.live, C.live, hp]
  · rfl
  · decide
  · exact ⟨⟨rfl, by simp [Blk.live, C.live, hp]⟩, ⟨⟨rfl, trivial⟩, trivial⟩⟩
  simp only [VW.down, Nat.reduceEqDiff, reduceCtorEq, Nat.reduceAdd, Nat.reduceLeDiff, Nat.reduceLT, Nat.reduceBEq, Nat.reduceSub, EE.down]
  refine condB (fun c2 => ?_) (fun c2 => ?_)
  · have h := (if_pos c2).symm.trans h
    simp only [VW.down, Nat.reduceEqDiff, reduceCtorEq, Nat.reduceAdd, Nat.reduceLeDiff, Nat.reduceLT, Nat.reduceBEq, Nat.reduceSub, EE.down]
    obtain rfl := Option.some.inj h
    exact eF [some 0, some 1]
  · have h := (if_neg c2).symm.trans h
    simp only [VW.down, Nat.reduceEqDiff, reduceCtorEq, Nat.reduceAdd, Nat.reduceLeDiff, Nat.reduceLT, Nat.reduceBEq, Nat.reduceSub, EE.down]
    refine t_bslice (enc := eWorkItem) (ys := [x1]) rfl rfl (by simp [A1.cells]) rfl ?_
    simp only [VW.down, Nat.reduceEqDiff, reduceCtorEq, Nat.reduceAdd, Nat.reduceLeDiff, Nat.reduceLT, Nat.reduceBEq, Nat.reduceSub, EE.down]
    obtain ⟨t3, ht3, h⟩ := Option.bind_eq_some_iff.1 h
    refine callX_n [1, 3] (F67_ok (e0 := e1) (e1 := 0) ht3) ?_ ?_ ?_ ?_ ?_ ?_
    · first | rfl | simp [nrmA, nrmC, nrm, A1.ren, C.ren, rn, List.length_set]
    · simp [liveAll, A1.live, C.live, hp]
    · rfl
    · decide
    · exact ⟨⟨rfl, trivial⟩, ⟨⟨rfl, trivial⟩, trivial⟩⟩
    simp only [VW.down, Nat.reduceEqDiff, reduceCtorEq, Nat.reduceAdd, Nat.reduceLeDiff, Nat.reduceLT, Nat.reduceBEq, Nat.reduceSub, EE.down]
    obtain rfl := Option.some.inj h
    exact eF [some 0, some 1]

/- orchestrator/workqueue.After -/
def F21 (x0 : WorkQueue) (x1 : ByteArray) (x2 : Int) : Option ((List ByteArray) × (List ByteArray) × (List ByteArray) × (List WorkItem) × (List WorkItem)) := (F32 x0).bind fun t1 => (F43 x2).bind fun t2 => (F46 t1.2.2.2.1 x1).bind fun t3 => (((if 0 ≤ t3 then (rdI t1.2.2.2.1 t3).bind fun y6 => (delI t1.2.2.2.1 t3 ((IntKind.i64.wrap (t3 + 1)))).bind fun t7 => some ((t7, (if y6.At < (if 1000000000000 < (if x2 < 0 then 0 else x2) then 1000000000000 else (if x2 < 0 then 0 else x2)) then y6.At else (if 1000000000000 < (if x2 < 0 then 0 else x2) then 1000000000000 else (if x2 < 0 then 0 else x2))))) else some ((t1.2.2.2.1, (if 1000000000000 < (if x2 < 0 then 0 else x2) then 1000000000000 else (if x2 < 0 then 0 else x2)))))).bind fun o4 => (F39 o4.1).bind fun t8 => (F42 ((⟨x1, o4.2⟩ : WorkItem)) t8).bind fun t9 => some ((t1.1, t1.2.1, t1.2.2.1, t9, t1.2.2.2.2)))
def a21 : AFn := ⟨45, [(.cell 6 (some 5))],
 (.seq (.reg [⟨(some 3), none, .box (.t 0), [], (.new [])⟩,
   ⟨(some 4), none, .box (.t 1), [], (.new [])⟩,
   ⟨(some 6), none, .zbox [.d (.v (.slice none 0 0)), .d (.v (.slice none 0 0)), .d (.v (.slice none 0 0)), .d (.v (.slice none 0 0)), .d (.v (.slice none 0 0))], [], (.new [])⟩])
 (.seq (.reg [⟨(some 9), none, .load (some 5) (.t 3), [], (.new [])⟩,
   ⟨(some 10), none, .call 32 [(.t 9)], [], (.new [])⟩,
   ⟨none, none, .store 5 (.t 3) (.t 10), [], (.new [])⟩])
 (.seq (.regd [⟨(some 11), none, .load none (.t 4), [], (.new [])⟩,
   ⟨(some 12), none, .mv (.t 2), [], (.new [])⟩,
   ⟨(some 13), none, .call 43 [(.t 12)], [1], (.new [1])⟩,
   ⟨(some 14), none, .build [.d (.v (.string ⟨#[]⟩)), .d (.v (.int .i64 0))] [(0, 1, (.t 11)), (1, 1, (.t 13))], [0, 1, 2], (.new [])⟩,
   ⟨(some 7), none, .zbox [.d (.v (.string ⟨#[]⟩)), .d (.v (.int .i64 0))], [], (.new [])⟩,
   ⟨none, none, .store 2 (.t 7) (.t 14), [0, 1, 2, 3, 4], (.lone [])⟩])
 (.seq (.reg [⟨(some 15), none, .fieldA 3 (.t 3), [], (.new [])⟩,
   ⟨(some 16), none, .load none (.t 15), [], (.new [])⟩,
   ⟨(some 17), none, .fn 47 [(.t 4)], [], (.new [])⟩,
   ⟨(some 18), none, .call 46 [(.t 16), (.t 17)], [], (.new [])⟩,
   ⟨(some 8), none, .mv (.t 18), [], (.new [])⟩])
 (.seq (.sem (.seq (.reg [⟨(some 19), none, .mv (.t 8), [], (.new [])⟩,
   ⟨(some 20), none, .bin .geq (.t 19) (kI 0), [], (.new [])⟩])
 (.cond (.t 20)
 (.seq (.regd [⟨(some 21), none, .fieldA 1 (.t 7), [], (.new [])⟩,
   ⟨(some 22), none, .load none (.t 21), [0], (.new [])⟩,
   ⟨(some 23), none, .fieldA 3 (.t 3), [], (.new [])⟩,
   ⟨(some 24), none, .load none (.t 23), [2], (.new [])⟩,
   ⟨(some 25), none, .mv (.t 8), [], (.new [])⟩,
   ⟨(some 26), none, .indexA 2 (.t 24) (.t 25), [2, 3, 4], (.new [])⟩,
   ⟨(some 27), none, .fieldA 1 (.t 26), [2, 3, 4, 5], (.new [])⟩,
   ⟨(some 28), none, .load none (.t 27), [2, 3, 4, 5, 6], (.new [])⟩,
   ⟨(some 29), none, .min (.t 22) (.t 28), [0, 1, 2, 3, 4, 5, 6, 7], (.new [])⟩,
   ⟨(some 30), none, .fieldA 1 (.t 7), [0, 1, 2, 3, 4, 5, 6, 7, 8], (.new [])⟩,
   ⟨none, none, .store 1 (.t 30) (.t 29), [0, 1, 2, 3, 4, 5, 6, 7, 8, 9], (.lone [])⟩])
 (.reg [⟨(some 31), none, .fieldA 3 (.t 3), [], (.new [])⟩,
   ⟨(some 32), none, .load none (.t 31), [], (.new [])⟩,
   ⟨(some 33), none, .mv (.t 8), [], (.new [])⟩,
   ⟨(some 34), none, .mv (.t 8), [], (.new [])⟩,
   ⟨(some 35), none, .bin .add (.t 34) (kI 1), [], (.new [])⟩,
   ⟨(some 36), none, .call 48 [(.t 32), (.t 33), (.t 35)], [], (.new [])⟩,
   ⟨(some 37), none, .fieldA 3 (.t 3), [], (.new [])⟩,
   ⟨none, none, .store 1 (.t 37) (.t 36), [], (.new [])⟩]))
 .skip)))
 (.seq (.regd [⟨(some 38), none, .fieldA 3 (.t 3), [], (.new [])⟩,
   ⟨(some 39), none, .load none (.t 38), [0], (.new [])⟩,
   ⟨(some 40), none, .call 39 [(.t 39), (.f 49)], [0, 1], (.new [0, 1])⟩,
   ⟨(some 41), none, .load (some 2) (.t 7), [], (.new [])⟩,
   ⟨(some 42), none, .call 42 [(.t 40), (.t 41)], [0, 1, 2, 3], (.lone [])⟩,
   ⟨(some 43), none, .fieldA 3 (.t 3), [0, 1, 2, 3, 4], (.new [])⟩,
   ⟨none, none, .store 1 (.t 43) (.t 42), [0, 1, 2, 3, 4, 5], (.lone [])⟩])
 (.seq (.reg [⟨(some 44), none, .load (some 5) (.t 3), [], (.new [])⟩,
   ⟨none, none, .store 5 (.t 6) (.t 44), [], (.lone [3])⟩])
 .ret)))))))⟩
theorem a21_ok : afn Try.prog 21 = some a21.er := by kernel_rfl
theorem F21_ok {x0 : WorkQueue} {x1 : ByteArray} {x2 : Int} {r : (List ByteArray) × (List ByteArray) × (List ByteArray) × (List WorkItem) × (List WorkItem)} (h : F21 x0 x1 x2 = some r) : CallD Try.prog 21 [.agg [.d (.sl (x0.Ready.map eS)), .d (.sl (x0.Working.map eS)), .d (.sl (x0.Dirty.map eS)), .d (.sl (x0.Later.map eWorkItem)), .d (.sl (x0.Retries.map eWorkItem))], .c (.d (.v (.string x1))), .c (.d (.v (.int .i64 x2)))] [] (tupV [.agg [.own 0 0 0 (r.1.length) none, .own 1 0 0 (r.2.1.length) none, .own 2 0 0 (r.2.2.1.length) none, .own 3 0 0 (r.2.2.2.1.length) none, .own 4 0 0 (r.2.2.2.2.length) none]]) [some (.arr 0 1 (r.1.map eS)), some (.arr 0 1 (r.2.1.map eS)), some (.arr 0 1 (r.2.2.1.map eS)), some (.arr 0 2 (r.2.2.2.1.map eWorkItem)), some (.arr 0 2 (r.2.2.2.2.map eWorkItem))] := by
  refine callS a21_ok (by simp [a21]) ?_
  rw [F21] at h
  simp only [a21, VW.down, Nat.reduceEqDiff, reduceCtorEq, Nat.reduceAdd, Nat.reduceLeDiff, Nat.reduceLT, Nat.reduceBEq, Nat.reduceSub, EE.down]
  obtain ⟨t1, ht1, h⟩ := Option.bind_eq_some_iff.1 h
  refine callX_n [] (F32_ok ht1) ?_ ?_ ?_ ?_ ?_ ?_
  · first | rfl | simp [nrmA, nrmC, nrm, A1.ren, C.ren, rn, List.length_set]
  · simp [liveAll, A1.live, C.live]
  · rfl
  · decide
  · exact trivial
  simp only [VW.down, Nat.reduceEqDiff, reduceCtorEq, Nat.reduceAdd, Nat.reduceLeDiff, Nat.reduceLT, Nat.reduceBEq, Nat.reduceSub, EE.down]
  obtain ⟨t2, ht2, h⟩ := Option.bind_eq_some_iff.1 h
  refine callX_n [] (F43_ok ht2) ?_ ?_ ?_ ?_ ?_ ?_
  · first | rfl | simp [nrmA, nrmC, nrm, A1.ren, C.ren, rn, List.length_set]
  · simp [liveAll, A1.live, C.live]
  · rfl
  · decide
  · exact trivial
  simp only [VW.down, Nat.reduceEqDiff, reduceCtorEq, Nat.reduceAdd, Nat.reduceLeDiff, Nat.reduceLT, Nat.reduceBEq, Nat.reduceSub, EE.down]
  refine kD_new (by simp [wrs, allW, hset]) ?_
  simp only [VW.down, Nat.reduceEqDiff, reduceCtorEq, Nat.reduceAdd, Nat.reduceLeDiff, Nat.reduceLT, Nat.reduceBEq, Nat.reduceSub, EE.down]
  obtain ⟨t3, ht3, h⟩ := Option.bind_eq_some_iff.1 h
  refine callX_n [6, 1] (F46_ok (e0 := 0) ht3) ?_ ?_ ?_ ?_ ?_ ?_
  · first | rfl | simp [nrmA, nrmC, nrm, A1.ren, C.ren, rn, List.length_set]
  · simp [liveAll, A1.live, C.live, hp]
  · rfl
  · decide
  · exact ⟨⟨rfl, trivial⟩, ⟨⟨rfl, by simp [Blk.live, C.live, hp]⟩, trivial⟩⟩
  simp only [VW.down, Nat.reduceEqDiff, reduceCtorEq, Nat.reduceAdd, Nat.reduceLeDiff, Nat.reduceLT, Nat.reduceBEq, Nat.reduceSub, EE.down]
  obtain ⟨o4, ho, h⟩ := Option.bind_eq_some_iff.1 h
  refine cutS (fun s => s = ⟨[(3, .one (.c (.pt 0 0))), (6, .one (.c (.pt 6 0))), (7, .one (.c (.pt 7 0)))], [some (.box [.own 1 0 0 (t1.1.length) none, .own 2 0 0 (t1.2.1.length) none, .own 3 0 0 (t1.2.2.1.length) none, .own 4 0 0 (o4.1.length) none, .own 5 0 0 (t1.2.2.2.2.length) none]), some (.arr 0 1 (t1.1.map eS)), some (.arr 0 1 (t1.2.1.map eS)), some (.arr 0 1 (t1.2.2.1.map eS)), some (.arr 0 2 (o4.1.map eWorkItem)), some (.arr 0 2 (t1.2.2.2.2.map eWorkItem)), some (.box [.d (.v (.slice none 0 0)), .d (.v (.slice none 0 0)), .d (.v (.slice none 0 0)), .d (.v (.slice none 0 0)), .d (.v (.slice none 0 0))]), some (.box [.d (.v (.string x1)), .d (.v (.int .i64 o4.2))])]⟩) ?_ ?_
  · have h := ho
    clear ho
    simp only [VW.down, Nat.reduceEqDiff, reduceCtorEq, Nat.reduceAdd, Nat.reduceLeDiff, Nat.reduceLT, Nat.reduceBEq, Nat.reduceSub, EE.down]
    refine condS (fun c5 => ?_) (fun c5 => ?_)
    · have h := (if_pos c5).symm.trans h
      simp only [VW.down, Nat.reduceEqDiff, reduceCtorEq, Nat.reduceAdd, Nat.reduceLeDiff, Nat.reduceLT, Nat.reduceBEq, Nat.reduceSub, EE.down]
      obtain ⟨y6, hy6, h⟩ := Option.bind_eq_some_iff.1 h
      refine t_idxO (enc := eWorkItem) (xs := t1.2.2.2.1) rfl rfl rfl (by first | rfl | simp only [List.length_set] | exact (clrL_len (slI_len (by assumption))).symm) hy6 ?_
      simp only [VW.down, Nat.reduceEqDiff, reduceCtorEq, Nat.reduceAdd, Nat.reduceLeDiff, Nat.reduceLT, Nat.reduceBEq, Nat.reduceSub, EE.down]
      refine LdRow.rd (rdI_some hy6).2.1 ?_
      simp only [VW.down, Nat.reduceEqDiff, reduceCtorEq, Nat.reduceAdd, Nat.reduceLeDiff, Nat.reduceLT, Nat.reduceBEq, Nat.reduceSub, EE.down]
      obtain ⟨t7, ht7, h⟩ := Option.bind_eq_some_iff.1 h
      refine callX_n [6] (F48_ok (e0 := 0) ht7) ?_ ?_ ?_ ?_ ?_ ?_
      · first | rfl | simp [nrmA, nrmC, nrm, A1.ren, C.ren, rn, List.length_set]
      · simp [liveAll, A1.live, C.live, hp]
      · rfl
      · decide
      · exact ⟨⟨rfl, trivial⟩, trivial⟩
      simp only [VW.down, Nat.reduceEqDiff, reduceCtorEq, Nat.reduceAdd, Nat.reduceLeDiff, Nat.reduceLT, Nat.reduceBEq, Nat.reduceSub, EE.down]
      obtain rfl := Option.some.inj h
      exact eM [some 0, some 3, some 4, some 5, some 6, some 7, some 2, some 8] rfl
    · have h := (if_neg c5).symm.trans h
      simp only [VW.down, Nat.reduceEqDiff, reduceCtorEq, Nat.reduceAdd, Nat.reduceLeDiff, Nat.reduceLT, Nat.reduceBEq, Nat.reduceSub, EE.down]
      obtain rfl := Option.some.inj h
      exact eM [some 0, some 3, some 4, some 5, some 6, some 7, some 2, some 8] rfl
  · rintro _ rfl
    clear ho
    simp only [VW.down, Nat.reduceEqDiff, reduceCtorEq, Nat.reduceAdd, Nat.reduceLeDiff, Nat.reduceLT, Nat.reduceBEq, Nat.reduceSub, EE.down]
    obtain ⟨t8, ht8, h⟩ := Option.bind_eq_some_iff.1 h
    refine callX_borF (F39_ok ht8) (by simp only [borAs, bors, hp, List.getElem?_cons_zero, List.getElem?_cons_succ, Option.join_some, List.drop_zero, bor_full', true_and, Nat.zero_add, List.length_map, Nat.le_refl, nrm, List.length_cons, List.length_nil, Nat.reduceAdd, Nat.reduceLeDiff, List.take_succ_cons, List.take_zero, List.take_nil, List.map_cons, List.map_nil, List.length_set, EE.down]) rfl ⟨rfl, flat_rows (enc := eWorkItem) (fun _ => rfl) _, trivial⟩ ?_
    simp only [VW.down, Nat.reduceEqDiff, reduceCtorEq, Nat.reduceAdd, Nat.reduceLeDiff, Nat.reduceLT, Nat.reduceBEq, Nat.reduceSub, EE.down]
    refine kD_new (by simp [wrs, allW, hset]) ?_
    simp only [VW.down, Nat.reduceEqDiff, reduceCtorEq, Nat.reduceAdd, Nat.reduceLeDiff, Nat.reduceLT, Nat.reduceBEq, Nat.reduceSub, EE.down]
    obtain ⟨t9, ht9, h⟩ := Option.bind_eq_some_iff.1 h
    refine callX_n [8, 9] (F42_ok (e1 := 0) ht9) ?_ ?_ ?_ ?_ ?_ ?_
    · first | rfl | simp [nrmA, nrmC, nrm, A1.ren, C.ren, rn, List.length_set]
    · simp [liveAll, A1.live, C.live, hp]
    · rfl
    · decide
    · exact ⟨⟨rfl, by simp [Blk.live, C.live, hp]⟩, ⟨⟨rfl, trivial⟩, trivial⟩⟩
    simp only [VW.down, Nat.reduceEqDiff, reduceCtorEq, Nat.reduceAdd, Nat.reduceLeDiff, Nat.reduceLT, Nat.reduceBEq, Nat.reduceSub, EE.down]
    obtain rfl := Option.some.inj h
    exact eF [some 1, some 2, some 3, some 9, some 5]

/- orchestrator/workqueue.of[orchestrator/api.WorkItem] -/
def F39v1 (x0 : (List WorkItem)) : Option ((List WorkItem)) := (cloneI x0).bind fun t1 => some t1
def a39v1 : AFn := ⟨10, [(.tmp 4)],
 (.seq (.reg [⟨(some 4), none, .mv (.k (.c (.d (.v (.pointer none))))), [], (.new [])⟩])
 (.seq (.reg [⟨(some 5), none, .mv (.t 0), [], (.new [])⟩,
   ⟨(some 6), none, .call 45 [(.t 5)], [], (.new [])⟩,
   ⟨(some 7), none, .mv (.t 1), [], (.new [])⟩,
   ⟨(some 8), none, .build [.d (.v (.slice none 0 0)), .d (.v (.nilFunc))] [(0, 1, (.t 6)), (1, 1, (.t 7))], [], (.new [])⟩,
   ⟨(some 9), none, .box (.t 8), [], (.new [])⟩,
   ⟨(some 4), none, .mv (.t 9), [], (.new [])⟩])
 .ret))⟩
theorem a39v1_ok : afn Try.prog 39 = some a39v1.er := by kernel_rfl
theorem F39v1_ok {x0 : (List WorkItem)} {r : (List WorkItem)} (h : F39v1 x0 = some r) : CallD Try.prog 39 [.c (.d (.sl (x0.map eWorkItem))), .c (.fn 40 [])] [] (tupV [.c (.pt 0 0)]) [some (.box [.own 1 0 0 (r.length) none, .fn 40 []]), some (.arr 0 2 (r.map eWorkItem))] := by
  refine callS a39v1_ok (by simp [a39v1]) ?_
  rw [F39v1] at h
  simp only [a39v1, VW.down, Nat.reduceEqDiff, reduceCtorEq, Nat.reduceAdd, Nat.reduceLeDiff, Nat.reduceLT, Nat.reduceBEq, Nat.reduceSub, EE.down]
  obtain ⟨t1, ht1, h⟩ := Option.bind_eq_some_iff.1 h
  refine callX_n [] (F45_ok ht1) ?_ ?_ ?_ ?_ ?_ ?_
  · first | rfl | simp [nrmA, nrmC, nrm, A1.ren, C.ren, rn, List.length_set]
  · simp [liveAll, A1.live, C.live]
  · rfl
  · decide
  · exact trivial
  simp only [VW.down, Nat.reduceEqDiff, reduceCtorEq, Nat.reduceAdd, Nat.reduceLeDiff, Nat.reduceLT, Nat.reduceBEq, Nat.reduceSub, EE.down]
  obtain rfl := Option.some.inj h
  exact eF [some 1, some 0]

/- slices.BinarySearchFunc[[]orchestrator/api.WorkItem,orchestrator/api.WorkItem,orchestrator/api.WorkItem] -/
def F66v1_l1 (x0 : (List WorkItem)) (x1 : WorkItem) : Nat → Int → Int → Option (Int)
  | 0, _, _ => none
  | k + 1, o1_0, o1_1 => (if o1_0 < o1_1 then (rdI x0 ((IntKind.i64.wrap ((shrV .u64 ((IntKind.u64.wrap ((IntKind.i64.wrap (o1_0 + o1_1))))) 1))))).bind fun y3 => (F40 y3 x1).bind fun t4 => (if t4 < 0 then F66v1_l1 x0 x1 k ((IntKind.i64.wrap (((IntKind.i64.wrap ((shrV .u64 ((IntKind.u64.wrap ((IntKind.i64.wrap (o1_0 + o1_1))))) 1)))) + 1))) o1_1 else F66v1_l1 x0 x1 k o1_0 ((IntKind.i64.wrap ((shrV .u64 ((IntKind.u64.wrap ((IntKind.i64.wrap (o1_0 + o1_1))))) 1))))) else some o1_0)
def F66v1 (x0 : (List WorkItem)) (x1 : WorkItem) : Option (Int × Bool) := ((F66v1_l1 x0 x1 1099511627776 0 ((x0.length : Int))).bind fun o1 => (((if o1 < (x0.length : Int) then (rdI x0 o1).bind fun y8 => (F40 y8 x1).bind fun t9 => some (decide (t9 = 0)) else some false)).bind fun o6 => some ((o1, o6))))
def a66v1 : AFn := ⟨49, [(.tmp 6), (.tmp 7)],
 (.seq (.reg [⟨(some 4), none, .box (.t 1), [], (.new [])⟩,
   ⟨(some 6), none, .mv (kI 0), [], (.new [])⟩,
   ⟨(some 7), none, .mv (kB false), [], (.new [])⟩])
 (.seq (.reg [⟨(some 12), none, .mv (.t 0), [], (.new [])⟩,
   ⟨(some 13), none, .len (.t 12), [], (.new [])⟩,
   ⟨(some 8), none, .mv (.t 13), [], (.new [])⟩])
 (.seq (.reg [⟨(some 14), none, .mv (.t 8), [], (.new [])⟩,
   ⟨(some 9), none, .mv (kI 0), [], (.new [])⟩,
   ⟨(some 10), none, .mv (.t 14), [], (.new [])⟩])
 (.seq (.sem (.block 0 (.loop (.seq (.seq (.reg [⟨(some 15), none, .mv (.t 9), [], (.new [])⟩,
   ⟨(some 16), none, .mv (.t 10), [], (.new [])⟩,
   ⟨(some 17), none, .bin .lss (.t 15) (.t 16), [], (.new [])⟩])
 (.cond (.t 17)
 .skip
 (.exit 0)))
 (.block 1 (.seq (.reg [⟨(some 18), none, .mv (.t 9), [], (.new [])⟩,
   ⟨(some 19), none, .mv (.t 10), [], (.new [])⟩,
   ⟨(some 20), none, .bin .add (.t 18) (.t 19), [], (.new [])⟩,
   ⟨(some 21), none, .conv .u64 (.t 20), [], (.new [])⟩,
   ⟨(some 22), none, .bin .shr (.t 21) (.k (.c (.d (.v (.int .u64 1))))), [], (.new [])⟩,
   ⟨(some 23), none, .conv .i64 (.t 22), [], (.new [])⟩,
   ⟨(some 11), none, .mv (.t 23), [], (.new [])⟩])
 (.seq (.regd [⟨(some 24), none, .mv (.t 2), [], (.new [])⟩,
   ⟨(some 25), none, .mv (.t 0), [], (.new [])⟩,
   ⟨(some 26), none, .mv (.t 11), [], (.new [])⟩,
   ⟨(some 27), none, .indexA 2 (.t 25) (.t 26), [1, 2], (.new [])⟩,
   ⟨(some 28), none, .load (some 2) (.t 27), [1, 2, 3], (.new [])⟩,
   ⟨(some 29), none, .load (some 2) (.t 4), [], (.new [])⟩,
   ⟨(some 30), none, .callv (.t 24) [(.t 28), (.t 29)], [0, 1, 2, 3, 4, 5], (.lone [])⟩,
   ⟨(some 31), none, .bin .lss (.t 30) (kI 0), [0, 1, 2, 3, 4, 5, 6], (.new [])⟩])
 (.cond (.t 31)
 (.reg [⟨(some 32), none, .mv (.t 11), [], (.new [])⟩,
   ⟨(some 33), none, .bin .add (.t 32) (kI 1), [], (.new [])⟩,
   ⟨(some 9), none, .mv (.t 33), [], (.new [])⟩])
 (.reg [⟨(some 34), none, .mv (.t 11), [], (.new [])⟩,
   ⟨(some 10), none, .mv (.t 34), [], (.new [])⟩])))))))))
 (.seq (.sem (.regd [⟨(some 35), none, .mv (.t 9), [], (.new [])⟩,
   ⟨(some 36), none, .mv (.t 9), [], (.new [])⟩,
   ⟨(some 37), none, .mv (.t 8), [], (.new [])⟩,
   ⟨(some 38), none, .bin .lss (.t 36) (.t 37), [1, 2], (.new [])⟩,
   ⟨(some 39), none, .mv (.t 38), [1, 2, 3], (.new [])⟩,
   ⟨(some 40), (some (39, true)), .mv (.t 2), [1, 2, 3, 4], (.new [])⟩,
   ⟨(some 41), (some (39, true)), .mv (.t 0), [1, 2, 3, 4], (.new [])⟩,
   ⟨(some 42), (some (39, true)), .mv (.t 9), [1, 2, 3, 4], (.new [])⟩,
   ⟨(some 43), (some (39, true)), .indexA 2 (.t 41) (.t 42), [1, 2, 3, 4, 6, 7], (.new [])⟩,
   ⟨(some 44), (some (39, true)), .load (some 2) (.t 43), [1, 2, 3, 4, 6, 7, 8], (.new [])⟩,
   ⟨(some 45), (some (39, true)), .load (some 2) (.t 4), [1, 2, 3, 4], (.new [])⟩,
   ⟨(some 46), (some (39, true)), .callv (.t 40) [(.t 44), (.t 45)], [1, 2, 3, 4, 5, 6, 7, 8, 9, 10], (.lone [])⟩,
   ⟨(some 47), (some (39, true)), .bin .eql (.t 46) (kI 0), [1, 2, 3, 4, 5, 6, 7, 8, 9, 10, 11], (.new [])⟩,
   ⟨(some 48), none, .pick (.t 39) (.t 47) (kB false), [1, 2, 3, 4, 5, 6, 7, 8, 9, 10, 11, 12], (.new [])⟩,
   ⟨(some 6), none, .mv (.t 35), [0, 1, 2, 3, 4, 5, 6, 7, 8, 9, 10, 11], (.new [])⟩,
   ⟨(some 7), none, .mv (.t 48), [0, 1, 2, 3, 4, 5, 6, 7, 8, 9, 10, 11, 12, 13, 14], (.new [])⟩]))
 .ret)))))⟩
theorem a66v1_ok : afn Try.prog 66 = some a66v1.er := by kernel_rfl
theorem F66v1_ok {x0 : (List WorkItem)} {x1 : WorkItem} {r : Int × Bool} (h : F66v1 x0 x1 = some r) : CallD Try.prog 66 [.c (.d (.sl (x0.map eWorkItem))), .agg [.d (.v (.string x1.Key)), .d (.v (.int .i64 x1.At))], .c (.fn 40 [])] [] (tupV [.c (.d (.v (.int .i64 r.1))), .c (.d (.v (.bool r.2)))]) [] := by
  refine callS a66v1_ok (by simp [a66v1]) ?_
  rw [F66v1] at h
  simp only [a66v1, VW.down, Nat.reduceEqDiff, reduceCtorEq, Nat.reduceAdd, Nat.reduceLeDiff, Nat.reduceLT, Nat.reduceBEq, Nat.reduceSub, EE.down]
  obtain ⟨o1, ho, h⟩ := Option.bind_eq_some_iff.1 h
  refine cutS (fun s => s = ⟨[(0, .one (.c (.d (.sl (x0.map eWorkItem))))), (2, .one (.c (.fn 40 []))), (4, .one (.c (.pt 0 0))), (8, .one (.c (.d (.v (.int .i64 ((x0.length : Int))))))), (9, .one (.c (.d (.v (.int .i64 o1)))))], [some (.box [.d (.v (.string x1.Key)), .d (.v (.int .i64 x1.At))])]⟩) ?_ ?_
  · have h := ho
    clear ho
    simp only [VW.down, Nat.reduceEqDiff, reduceCtorEq, Nat.reduceAdd, Nat.reduceLeDiff, Nat.reduceLT, Nat.reduceBEq, Nat.reduceSub, EE.down]
    refine bL (fun j s => ∃ (o1_0 : Int) (o1_1 : Int), s = ⟨[(0, .one (.c (.d (.sl (x0.map eWorkItem))))), (2, .one (.c (.fn 40 []))), (4, .one (.c (.pt 0 0))), (8, .one (.c (.d (.v (.int .i64 ((x0.length : Int))))))), (9, .one (.c (.d (.v (.int .i64 o1_0))))), (10, .one (.c (.d (.v (.int .i64 o1_1)))))], [some (.box [.d (.v (.string x1.Key)), .d (.v (.int .i64 x1.At))])]⟩ ∧ F66v1_l1 x0 x1 j o1_0 o1_1 = some o1) 1099511627776 [some 0] ⟨0, (x0.length : Int), rfl, h⟩ ?_
    rintro j _ ⟨o1_0, o1_1, rfl, h⟩
    cases j with
    | zero => cases (show (none : Option _) = some _ from h)
    | succ j =>
      rw [F66v1_l1] at h
      simp only [VW.down, Nat.reduceEqDiff, reduceCtorEq, Nat.reduceAdd, Nat.reduceLeDiff, Nat.reduceLT, Nat.reduceBEq, Nat.reduceSub, EE.down]
      refine condS (fun c2 => ?_) (fun c2 => ?_)
      · have h := (if_pos c2).symm.trans h
        simp only [VW.down, Nat.reduceEqDiff, reduceCtorEq, Nat.reduceAdd, Nat.reduceLeDiff, Nat.reduceLT, Nat.reduceBEq, Nat.reduceSub, EE.down]
        refine ⟨by decide, ?_⟩
        try simp only [VW.down, Nat.reduceEqDiff, reduceCtorEq, Nat.reduceAdd, Nat.reduceLeDiff, Nat.reduceLT, Nat.reduceBEq, Nat.reduceSub, EE.down]
        obtain ⟨y3, hy3, h⟩ := Option.bind_eq_some_iff.1 h
        refine t_idxF (enc := eWorkItem) (xs := x0) rfl rfl hy3 rfl ?_
        simp only [VW.down, Nat.reduceEqDiff, reduceCtorEq, Nat.reduceAdd, Nat.reduceLeDiff, Nat.reduceLT, Nat.reduceBEq, Nat.reduceSub, EE.down]
        obtain ⟨t4, ht4, h⟩ := Option.bind_eq_some_iff.1 h
        refine callX_n [] (F40_ok ht4) ?_ ?_ ?_ ?_ ?_ ?_
        · first | rfl | simp [nrmA, nrmC, nrm, A1.ren, C.ren, rn, List.length_set]
        · simp [liveAll, A1.live, C.live]
        · rfl
        · decide
        · exact trivial
        simp only [VW.down, Nat.reduceEqDiff, reduceCtorEq, Nat.reduceAdd, Nat.reduceLeDiff, Nat.reduceLT, Nat.reduceBEq, Nat.reduceSub, EE.down]
        refine condS (fun c5 => ?_) (fun c5 => ?_)
        · have h := (if_pos c5).symm.trans h
          simp only [VW.down, Nat.reduceEqDiff, reduceCtorEq, Nat.reduceAdd, Nat.reduceLeDiff, Nat.reduceLT, Nat.reduceBEq, Nat.reduceSub, EE.down]
          exact eL' j [some 0] ⟨(IntKind.i64.wrap (((IntKind.i64.wrap ((shrV .u64 ((IntKind.u64.wrap ((IntKind.i64.wrap (o1_0 + o1_1))))) 1)))) + 1)), o1_1, rfl, h⟩ (Nat.lt_succ_self _)
        · have h := (if_neg c5).symm.trans h
          simp only [VW.down, Nat.reduceEqDiff, reduceCtorEq, Nat.reduceAdd, Nat.reduceLeDiff, Nat.reduceLT, Nat.reduceBEq, Nat.reduceSub, EE.down]
          exact eL' j [some 0] ⟨o1_0, (IntKind.i64.wrap ((shrV .u64 ((IntKind.u64.wrap ((IntKind.i64.wrap (o1_0 + o1_1))))) 1))), rfl, h⟩ (Nat.lt_succ_self _)
      · have h := (if_neg c2).symm.trans h
        simp only [VW.down, Nat.reduceEqDiff, reduceCtorEq, Nat.reduceAdd, Nat.reduceLeDiff, Nat.reduceLT, Nat.reduceBEq, Nat.reduceSub, EE.down]
        obtain rfl := Option.some.inj h
        exact eM [some 0] rfl
  · rintro _ rfl
    clear ho
    simp only [VW.down, Nat.reduceEqDiff, reduceCtorEq, Nat.reduceAdd, Nat.reduceLeDiff, Nat.reduceLT, Nat.reduceBEq, Nat.reduceSub, EE.down]
    obtain ⟨o6, ho, h⟩ := Option.bind_eq_some_iff.1 h
    refine cutS (fun s => s = ⟨[(6, .one (.c (.d (.v (.int .i64 o1))))), (7, .one (.c (.d (.v (.bool o6)))))], []⟩) ?_ ?_
    · have h := ho
      clear ho
      simp only [VW.down, Nat.reduceEqDiff, reduceCtorEq, Nat.reduceAdd, Nat.reduceLeDiff, Nat.reduceLT, Nat.reduceBEq, Nat.reduceSub, EE.down]
      refine guardD (fun g7 => ?_) (fun g7 => ?_)
      · have h := (if_pos g7).symm.trans h
        simp only [VW.down, Nat.reduceEqDiff, reduceCtorEq, Nat.reduceAdd, Nat.reduceLeDiff, Nat.reduceLT, Nat.reduceBEq, Nat.reduceSub, EE.down]
        obtain ⟨y8, hy8, h⟩ := Option.bind_eq_some_iff.1 h
        refine t_idxF (enc := eWorkItem) (xs := x0) rfl rfl hy8 rfl ?_
        simp only [VW.down, Nat.reduceEqDiff, reduceCtorEq, Nat.reduceAdd, Nat.reduceLeDiff, Nat.reduceLT, Nat.reduceBEq, Nat.reduceSub, EE.down]
        obtain ⟨t9, ht9, h⟩ := Option.bind_eq_some_iff.1 h
        refine callX_n [] (F40_ok ht9) ?_ ?_ ?_ ?_ ?_ ?_
        · first | rfl | simp [nrmA, nrmC, nrm, A1.ren, C.ren, rn, List.length_set]
        · simp [liveAll, A1.live, C.live]
        · rfl
        · decide
        · exact trivial
        simp only [VW.down, Nat.reduceEqDiff, reduceCtorEq, Nat.reduceAdd, Nat.reduceLeDiff, Nat.reduceLT, Nat.reduceBEq, Nat.reduceSub, EE.down]
        obtain rfl := Option.some.inj h
        exact eM [] rfl
      · have h := (if_neg g7).symm.trans h
        simp only [VW.down, Nat.reduceEqDiff, reduceCtorEq, Nat.reduceAdd, Nat.reduceLeDiff, Nat.reduceLT, Nat.reduceBEq, Nat.reduceSub, EE.down]
        obtain rfl := Option.some.inj h
        exact eM [] rfl
    · rintro _ rfl
      clear ho
      simp only [VW.down, Nat.reduceEqDiff, reduceCtorEq, Nat.reduceAdd, Nat.reduceLeDiff, Nat.reduceLT, Nat.reduceBEq, Nat.reduceSub, EE.down]
      obtain rfl := Option.some.inj h
      exact eF []

/- (*orchestrator/workqueue.sorted[orchestrator/api.WorkItem]).find -/
def F41v1 (x1 : WorkItem) (b0_0 : (List WorkItem)) : Option (Int × Bool) := (F66v1 b0_0 x1).bind fun t1 => some ((t1.1, t1.2))
def a41v1 : AFn := ⟨18, [(.tmp 4), (.tmp 5)],
 (.seq (.reg [⟨(some 3), none, .box (.t 1), [], (.new [])⟩,
   ⟨(some 4), none, .mv (kI 0), [], (.new [])⟩,
   ⟨(some 5), none, .mv (kB false), [], (.new [])⟩])
 (.seq (.regd [⟨(some 6), none, .mv (.t 0), [], (.new [])⟩,
   ⟨(some 7), none, .fieldA 0 (.t 6), [0], (.new [])⟩,
   ⟨(some 8), none, .fieldA 0 (.t 7), [0, 1], (.new [])⟩,
   ⟨(some 9), none, .load none (.t 8), [0, 1, 2], (.new [])⟩,
   ⟨(some 10), none, .load (some 2) (.t 3), [], (.new [])⟩,
   ⟨(some 11), none, .mv (.t 0), [], (.new [])⟩,
   ⟨(some 12), none, .fieldA 0 (.t 11), [5], (.new [])⟩,
   ⟨(some 13), none, .fieldA 1 (.t 12), [5, 6], (.new [])⟩,
   ⟨(some 14), none, .load none (.t 13), [5, 6, 7], (.new [])⟩,
   ⟨(some 15), none, .call 66 [(.t 9), (.t 10), (.t 14)], [0, 1, 2, 3, 4, 5, 6, 7, 8], (.lone [])⟩,
   ⟨(some 16), none, .ext (.t 15) 0, [0, 1, 2, 3, 4, 5, 6, 7, 8, 9], (.new [])⟩,
   ⟨(some 17), none, .ext (.t 15) 1, [0, 1, 2, 3, 4, 5, 6, 7, 8, 9], (.new [])⟩,
   ⟨(some 4), none, .mv (.t 16), [0, 1, 2, 3, 4, 5, 6, 7, 8, 9, 10, 11], (.new [])⟩,
   ⟨(some 5), none, .mv (.t 17), [0, 1, 2, 3, 4, 5, 6, 7, 8, 9, 10, 11, 12], (.new [])⟩])
 .ret))⟩
theorem a41v1_ok : afn Try.prog 41 = some a41v1.er := by kernel_rfl
theorem F41v1_ok {x1 : WorkItem} {b0_0 : (List WorkItem)} {r : Int × Bool} {e1 : Nat} (h : F41v1 x1 b0_0 = some r) : CallD Try.prog 41 [.c (.pt 0 0), .agg [.d (.v (.string x1.Key)), .d (.v (.int .i64 x1.At))]] [some (.box [.own 1 e1 0 (b0_0.length) none, .fn 40 []]), some (.arr e1 2 (b0_0.map eWorkItem))] (tupV [.c (.d (.v (.int .i64 r.1))), .c (.d (.v (.bool r.2)))]) [some (.box [.own 1 e1 0 (b0_0.length) none, .fn 40 []]), some (.arr e1 2 (b0_0.map eWorkItem))] := by
  refine callS a41v1_ok (by simp [a41v1]) ?_
  rw [F41v1] at h
  simp only [a41v1, VW.down, Nat.reduceEqDiff, reduceCtorEq, Nat.reduceAdd, Nat.reduceLeDiff, Nat.reduceLT, Nat.reduceBEq, Nat.reduceSub, EE.down]
  obtain ⟨t1, ht1, h⟩ := Option.bind_eq_some_iff.1 h
  refine callX_bor (F66v1_ok ht1) (by simp only [borAs, bors, hp, List.getElem?_cons_zero, List.getElem?_cons_succ, Option.join_some, List.drop_zero, bor_full', true_and, Nat.zero_add, List.length_map, Nat.le_refl, nrm, List.length_cons, List.length_nil, Nat.reduceAdd, Nat.reduceLeDiff, List.take_succ_cons, List.take_zero, List.take_nil, List.map_cons, List.map_nil, List.length_set, EE.down]) rfl ?_
  simp only [VW.down, Nat.reduceEqDiff, reduceCtorEq, Nat.reduceAdd, Nat.reduceLeDiff, Nat.reduceLT, Nat.reduceBEq, Nat.reduceSub, EE.down]
  obtain rfl := Option.some.inj h
  exact eF [some 0, some 1]

/- (*orchestrator/workqueue.sorted[orchestrator/api.WorkItem]).insert -/
def F42v1 (x1 : WorkItem) (b0_0 : (List WorkItem)) : Option ((List WorkItem)) := (F41v1 x1 b0_0).bind fun t1 => (if t1.2 = true then some b0_0 else (insI b0_0 t1.1 x1).bind fun t3 => some t3)
def a42v1 : AFn := ⟨26, [(.tmp 4)],
 (.seq (.reg [⟨(some 3), none, .box (.t 1), [], (.new [])⟩,
   ⟨(some 4), none, .mv kN, [], (.new [])⟩])
 (.seq (.reg [⟨(some 8), none, .mv (.t 0), [], (.new [])⟩,
   ⟨(some 9), none, .load (some 2) (.t 3), [], (.new [])⟩,
   ⟨(some 10), none, .call 41 [(.t 8), (.t 9)], [], (.new [])⟩,
   ⟨(some 7), none, .mv (.t 10), [], (.new [])⟩,
   ⟨(some 11), none, .ext (.t 7) 0, [], (.new [])⟩,
   ⟨(some 12), none, .ext (.t 7) 1, [], (.new [])⟩,
   ⟨(some 5), none, .mv (.t 11), [], (.new [])⟩,
   ⟨(some 6), none, .mv (.t 12), [], (.new [])⟩])
 (.seq (.seq (.reg [⟨(some 13), none, .mv (.t 6), [], (.new [])⟩])
 (.cond (.t 13)
 (.seq (.reg [⟨(some 14), none, .mv (.t 0), [], (.new [])⟩,
   ⟨(some 15), none, .fieldA 0 (.t 14), [], (.new [])⟩,
   ⟨(some 16), none, .fieldA 0 (.t 15), [], (.new [])⟩,
   ⟨(some 17), none, .load none (.t 16), [], (.new [])⟩,
   ⟨(some 4), none, .mv (.t 17), [], (.new [])⟩])
 .ret)
 .skip))
 (.seq (.regd [⟨(some 18), none, .mv (.t 0), [], (.new [])⟩,
   ⟨(some 19), none, .fieldA 0 (.t 18), [0], (.new [])⟩,
   ⟨(some 20), none, .fieldA 0 (.t 19), [0, 1], (.new [])⟩,
   ⟨(some 21), none, .load none (.t 20), [0, 1, 2], (.new [])⟩,
   ⟨(some 22), none, .mv (.t 5), [], (.new [])⟩,
   ⟨(some 23), none, .load (some 2) (.t 3), [], (.new [])⟩,
   ⟨(some 24), none, .bslice 2 [(.t 23)], [5], (.lone [18, 19, 20])⟩,
   ⟨(some 25), none, .call 67 [(.t 21), (.t 22), (.t 24)], [0, 1, 2, 3, 4, 5, 6], (.lone [])⟩,
   ⟨(some 4), none, .mv (.t 25), [0, 1, 2, 3, 4, 5, 6, 7], (.new [])⟩])
 .ret))))⟩
theorem a42v1_ok : afn Try.prog 42 = some a42v1.er := by kernel_rfl
theorem F42v1_ok {x1 : WorkItem} {b0_0 : (List WorkItem)} {r : (List WorkItem)} {e1 : Nat} (h : F42v1 x1 b0_0 = some r) : CallD Try.prog 42 [.c (.pt 0 0), .agg [.d (.v (.string x1.Key)), .d (.v (.int .i64 x1.At))]] [some (.box [.own 1 e1 0 (b0_0.length) none, .fn 40 []]), some (.arr e1 2 (b0_0.map eWorkItem))] (tupV [.c (.own 1 (e1 + 2) 0 (r.length) none)]) [some (.box [.own 1 e1 0 0 (some 0), .fn 40 []]), some (.arr (e1 + 2) 2 (r.map eWorkItem))] := by
  refine callS a42v1_ok (by simp [a42v1]) ?_
  rw [F42v1] at h
  simp only [a42v1, VW.down, Nat.reduceEqDiff, reduceCtorEq, Nat.reduceAdd, Nat.reduceLeDiff, Nat.reduceLT, Nat.reduceBEq, Nat.reduceSub, EE.down]
  obtain ⟨t1, ht1, h⟩ := Option.bind_eq_some_iff.1 h
  refine callX_n [0, 1] (F41v1_ok (e1 := e1) ht1) ?_ ?_ ?_ ?_ ?_ ?_
  · first | rfl | simp [nrmA, nrmC, nrm, A1.ren, C.ren, rn, List.length_set]
  · simp [liveAll, A1.live, C.live, hp]
  · rfl
  · decide
  · exact ⟨⟨rfl, by simp [Blk.live, C.live, hp]⟩, ⟨⟨rfl, trivial⟩, trivial⟩⟩
  simp only [VW.down, Nat.reduceEqDiff, reduceCtorEq, Nat.reduceAdd, Nat.reduceLeDiff, Nat.reduceLT, Nat.reduceBEq, Nat.reduceSub, EE.down]
  refine condB (fun c2 => ?_) (fun c2 => ?_)
  · have h := (if_pos c2).symm.trans h
    simp only [VW.down, Nat.reduceEqDiff, reduceCtorEq, Nat.reduceAdd, Nat.reduceLeDiff, Nat.reduceLT, Nat.reduceBEq, Nat.reduceSub, EE.down]
    obtain rfl := Option.some.inj h
    exact eF [some 0, some 1]
  · have h := (if_neg c2).symm.trans h
    simp only [VW.down, Nat.reduceEqDiff, reduceCtorEq, Nat.reduceAdd, Nat.reduceLeDiff, Nat.reduceLT, Nat.reduceBEq, Nat.reduceSub, EE.down]
    refine t_bslice (enc := eWorkItem) (ys := [x1]) rfl rfl (by simp [A1.cells]) rfl ?_
    simp only [VW.down, Nat.reduceEqDiff, reduceCtorEq, Nat.reduceAdd, Nat.reduceLeDiff, Nat.reduceLT, Nat.reduceBEq, Nat.reduceSub, EE.down]
    obtain ⟨t3, ht3, h⟩ := Option.bind_eq_some_iff.1 h
    refine callX_n [1, 3] (F67_ok (e0 := e1) (e1 := 0) ht3) ?_ ?_ ?_ ?_ ?_ ?_
    · first | rfl | simp [nrmA, nrmC, nrm, A1.ren, C.ren, rn, List.length_set]
    · simp [liveAll, A1.live, C.live, hp]
    · rfl
    · decide
    · exact ⟨⟨rfl, trivial⟩, ⟨⟨rfl, trivial⟩, trivial⟩⟩
    simp only [VW.down, Nat.reduceEqDiff, reduceCtorEq, Nat.reduceAdd, Nat.reduceLeDiff, Nat.reduceLT, Nat.reduceBEq, Nat.reduceSub, EE.down]
    obtain rfl := Option.some.inj h
    exact eF [some 0, some 1]

/- orchestrator/workqueue.Fail -/
def F19 (x0 : WorkQueue) (x1 : ByteArray) (x2 : Int) (x3 : Int) (x4 : Int) : Option ((List ByteArray) × (List ByteArray) × (List ByteArray) × (List WorkItem) × (List WorkItem)) := (F32 x0).bind fun t1 => (F39v1 t1.2.2.2.2).bind fun t2 => (((F41v1 ((⟨x1, 1⟩ : WorkItem)) t2).bind fun t4 => (if t4.2 = true then (rdI t2 t4.1).bind fun y6 => (rdI t2 t4.1).bind fun y7 => some (((t2.set t4.1.toNat ((⟨x1, (if 1000000000000000 < (IntKind.i64.wrap (y6.At + 1)) then 1000000000000000 else (IntKind.i64.wrap (y6.At + 1)))⟩ : WorkItem))), (if 1000000000000000 < (IntKind.i64.wrap (y6.At + 1)) then 1000000000000000 else (IntKind.i64.wrap (y6.At + 1))))) else (F42v1 ((⟨x1, 1⟩ : WorkItem)) t2).bind fun t8 => some ((t8, 1)))).bind fun o3 => (F43 x2).bind fun t9 => (F44 x3 x4 o3.2).bind fun t10 => (F21 ((⟨t1.1, t1.2.1, t1.2.2.1, t1.2.2.2.1, o3.1⟩ : WorkQueue)) x1 ((if 1000000000000 < (IntKind.i64.wrap (((if 1000000000000 < (if x2 < 0 then 0 else x2) then 1000000000000 else (if x2 < 0 then 0 else x2))) + t10)) then 1000000000000 else (IntKind.i64.wrap (((if 1000000000000 < (if x2 < 0 then 0 else x2) then 1000000000000 else (if x2 < 0 then 0 else x2))) + t10))))).bind fun t11 => some ((t11.1, t11.2.1, t11.2.2.1, t11.2.2.2.1, t11.2.2.2.2)))
def a19 : AFn := ⟨68, [(.cell 10 (some 5))],
 (.seq (.reg [⟨(some 5), none, .box (.t 0), [], (.new [])⟩,
   ⟨(some 10), none, .zbox [.d (.v (.slice none 0 0)), .d (.v (.slice none 0 0)), .d (.v (.slice none 0 0)), .d (.v (.slice none 0 0)), .d (.v (.slice none 0 0))], [], (.new [])⟩])
 (.seq (.reg [⟨(some 15), none, .load (some 5) (.t 5), [], (.new [])⟩,
   ⟨(some 16), none, .call 32 [(.t 15)], [], (.new [])⟩,
   ⟨none, none, .store 5 (.t 5) (.t 16), [], (.new [])⟩])
 (.seq (.reg [⟨(some 17), none, .fieldA 4 (.t 5), [], (.new [])⟩,
   ⟨(some 18), none, .load none (.t 17), [], (.new [])⟩,
   ⟨(some 19), none, .call 39 [(.t 18), (.f 40)], [], (.new [])⟩,
   ⟨(some 11), none, .mv (.t 19), [], (.new [])⟩])
 (.seq (.reg [⟨(some 20), none, .mv (.t 1), [], (.new [])⟩,
   ⟨(some 21), none, .build [.d (.v (.string ⟨#[]⟩)), .d (.v (.int .i64 0))] [(0, 1, (.t 20)), (1, 1, (kI 1))], [], (.new [])⟩,
   ⟨(some 12), none, .zbox [.d (.v (.string ⟨#[]⟩)), .d (.v (.int .i64 0))], [], (.new [])⟩,
   ⟨none, none, .store 2 (.t 12) (.t 21), [], (.new [])⟩])
 (.seq (.sem (.seq (.reg [⟨(some 23), none, .mv (.t 11), [], (.new [])⟩,
   ⟨(some 24), none, .load (some 2) (.t 12), [], (.new [])⟩,
   ⟨(some 25), none, .call 41 [(.t 23), (.t 24)], [], (.new [])⟩,
   ⟨(some 22), none, .mv (.t 25), [], (.new [])⟩,
   ⟨(some 26), none, .ext (.t 22) 0, [], (.new [])⟩,
   ⟨(some 27), none, .ext (.t 22) 1, [], (.new [])⟩,
   ⟨(some 13), none, .mv (.t 26), [], (.new [])⟩,
   ⟨(some 14), none, .mv (.t 27), [], (.new [])⟩])
 (.seq (.reg [⟨(some 28), none, .mv (.t 14), [], (.new [])⟩])
 (.cond (.t 28)
 (.seq (.reg [⟨(some 29), none, .mv (.t 11), [], (.new [])⟩,
   ⟨(some 30), none, .fieldA 0 (.t 29), [], (.new [])⟩,
   ⟨(some 31), none, .fieldA 0 (.t 30), [], (.new [])⟩,
   ⟨(some 32), none, .load none (.t 31), [], (.new [])⟩,
   ⟨(some 33), none, .mv (.t 13), [], (.new [])⟩,
   ⟨(some 34), none, .indexA 2 (.t 32) (.t 33), [], (.new [])⟩,
   ⟨(some 35), none, .fieldA 1 (.t 34), [], (.new [])⟩,
   ⟨(some 36), none, .load none (.t 35), [], (.new [])⟩,
   ⟨(some 37), none, .bin .add (.t 36) (kI 1), [], (.new [])⟩,
   ⟨(some 38), none, .min (.t 37) (kI 1000000000000000), [], (.new [])⟩,
   ⟨(some 39), none, .fieldA 1 (.t 12), [], (.new [])⟩,
   ⟨none, none, .store 1 (.t 39) (.t 38), [], (.lone [29, 30, 31, 32, 34, 35, 12])⟩])
 (.seq (.regd [⟨(some 40), none, .mv (.t 11), [], (.new [])⟩,
   ⟨(some 41), none, .fieldA 0 (.t 40), [0], (.new [])⟩,
   ⟨(some 42), none, .fieldA 0 (.t 41), [0, 1], (.new [])⟩,
   ⟨(some 43), none, .load none (.t 42), [0, 1, 2], (.new [])⟩,
   ⟨(some 44), none, .mv (.t 13), [], (.new [])⟩,
   ⟨(some 45), none, .load (some 2) (.t 12), [], (.new [])⟩,
   ⟨(some 46), none, .indexA 2 (.t 43) (.t 44), [0, 1, 2, 3, 4, 5], (.new [])⟩,
   ⟨none, none, .store 2 (.t 46) (.t 45), [0, 1, 2, 3, 4, 5, 6], (.lone [])⟩])
 (.reg [⟨(some 47), none, .mv (.t 11), [], (.new [])⟩,
   ⟨(some 48), none, .fieldA 0 (.t 47), [], (.new [])⟩,
   ⟨(some 49), none, .fieldA 0 (.t 48), [], (.new [])⟩,
   ⟨(some 50), none, .load none (.t 49), [], (.new [])⟩,
   ⟨(some 51), none, .fieldA 4 (.t 5), [], (.new [])⟩,
   ⟨none, none, .store 1 (.t 51) (.t 50), [], (.lone [47, 48, 49, 5])⟩])))
 (.reg [⟨(some 52), none, .mv (.t 11), [], (.new [])⟩,
   ⟨(some 53), none, .load (some 2) (.t 12), [], (.new [])⟩,
   ⟨(some 54), none, .call 42 [(.t 52), (.t 53)], [], (.new [])⟩,
   ⟨(some 55), none, .fieldA 4 (.t 5), [], (.new [])⟩,
   ⟨none, none, .store 1 (.t 55) (.t 54), [], (.new [])⟩])))))
 (.seq (.regd [⟨(some 56), none, .load (some 5) (.t 5), [], (.new [])⟩,
   ⟨(some 57), none, .mv (.t 1), [], (.new [])⟩,
   ⟨(some 58), none, .mv (.t 2), [], (.new [])⟩,
   ⟨(some 59), none, .call 43 [(.t 58)], [2], (.new [2])⟩,
   ⟨(some 60), none, .mv (.t 3), [], (.new [])⟩,
   ⟨(some 61), none, .mv (.t 4), [], (.new [])⟩,
   ⟨(some 62), none, .fieldA 1 (.t 12), [], (.new [])⟩,
   ⟨(some 63), none, .load none (.t 62), [6], (.new [])⟩,
   ⟨(some 64), none, .call 44 [(.t 60), (.t 61), (.t 63)], [2, 3, 4, 5, 6, 7], (.lone [5])⟩,
   ⟨(some 65), none, .bin .add (.t 59) (.t 64), [2, 3, 4, 5, 6, 7, 8], (.new [])⟩,
   ⟨(some 66), none, .min (.t 65) (kI 1000000000000), [2, 3, 4, 5, 6, 7, 8, 9], (.new [])⟩,
   ⟨(some 67), none, .call 21 [(.t 56), (.t 57), (.t 66)], [0, 1, 2, 3, 4, 5, 6, 7, 8, 9, 10], (.lone [])⟩,
   ⟨none, none, .store 5 (.t 10) (.t 67), [0, 1, 2, 3, 4, 5, 6, 7, 8, 9, 10, 11], (.lone [])⟩])
 .ret))))))⟩
theorem a19_ok : afn Try.prog 19 = some a19.er := by kernel_rfl
theorem F19_ok {x0 : WorkQueue} {x1 : ByteArray} {x2 : Int} {x3 : Int} {x4 : Int} {r : (List ByteArray) × (List ByteArray) × (List ByteArray) × (List WorkItem) × (List WorkItem)} (h : F19 x0 x1 x2 x3 x4 = some r) : CallD Try.prog 19 [.agg [.d (.sl (x0.Ready.map eS)), .d (.sl (x0.Working.map eS)), .d (.sl (x0.Dirty.map eS)), .d (.sl (x0.Later.map eWorkItem)), .d (.sl (x0.Retries.map eWorkItem))], .c (.d (.v (.string x1))), .c (.d (.v (.int .i64 x2))), .c (.d (.v (.int .i64 x3))), .c (.d (.v (.int .i64 x4)))] [] (tupV [.agg [.own 0 0 0 (r.1.length) none, .own 1 0 0 (r.2.1.length) none, .own 2 0 0 (r.2.2.1.length) none, .own 3 0 0 (r.2.2.2.1.length) none, .own 4 0 0 (r.2.2.2.2.length) none]]) [some (.arr 0 1 (r.1.map eS)), some (.arr 0 1 (r.2.1.map eS)), some (.arr 0 1 (r.2.2.1.map eS)), some (.arr 0 2 (r.2.2.2.1.map eWorkItem)), some (.arr 0 2 (r.2.2.2.2.map eWorkItem))] := by
  refine callS a19_ok (by simp [a19]) ?_
  rw [F19] at h
  simp only [a19, VW.down, Nat.reduceEqDiff, reduceCtorEq, Nat.reduceAdd, Nat.reduceLeDiff, Nat.reduceLT, Nat.reduceBEq, Nat.reduceSub, EE.down]
  obtain ⟨t1, ht1, h⟩ := Option.bind_eq_some_iff.1 h
  refine callX_n [] (F32_ok ht1) ?_ ?_ ?_ ?_ ?_ ?_
  · first | rfl | simp [nrmA, nrmC, nrm, A1.ren, C.ren, rn, List.length_set]
  · simp [liveAll, A1.live, C.live]
  · rfl
  · decide
  · exact trivial
  simp only [VW.down, Nat.reduceEqDiff, reduceCtorEq, Nat.reduceAdd, Nat.reduceLeDiff, Nat.reduceLT, Nat.reduceBEq, Nat.reduceSub, EE.down]
  obtain ⟨t2, ht2, h⟩ := Option.bind_eq_some_iff.1 h
  refine callX_borF (F39v1_ok ht2) (by simp only [borAs, bors, hp, List.getElem?_cons_zero, List.getElem?_cons_succ, Option.join_some, List.drop_zero, bor_full', true_and, Nat.zero_add, List.length_map, Nat.le_refl, nrm, List.length_cons, List.length_nil, Nat.reduceAdd, Nat.reduceLeDiff, List.take_succ_cons, List.take_zero, List.take_nil, List.map_cons, List.map_nil, List.length_set, EE.down]) rfl ⟨rfl, flat_rows (enc := eWorkItem) (fun _ => rfl) _, trivial⟩ ?_
  simp only [VW.down, Nat.reduceEqDiff, reduceCtorEq, Nat.reduceAdd, Nat.reduceLeDiff, Nat.reduceLT, Nat.reduceBEq, Nat.reduceSub, EE.down]
  obtain ⟨o3, ho, h⟩ := Option.bind_eq_some_iff.1 h
  refine cutS (fun s => s = ⟨[(1, .one (.c (.d (.v (.string x1))))), (2, .one (.c (.d (.v (.int .i64 x2))))), (3, .one (.c (.d (.v (.int .i64 x3))))), (4, .one (.c (.d (.v (.int .i64 x4))))), (5, .one (.c (.pt 0 0))), (10, .one (.c (.pt 6 0))), (12, .one (.c (.pt 7 0)))], [some (.box [.own 1 0 0 (t1.1.length) none, .own 2 0 0 (t1.2.1.length) none, .own 3 0 0 (t1.2.2.1.length) none, .own 4 0 0 (t1.2.2.2.1.length) none, .own 5 0 0 (o3.1.length) none]), some (.arr 0 1 (t1.1.map eS)), some (.arr 0 1 (t1.2.1.map eS)), some (.arr 0 1 (t1.2.2.1.map eS)), some (.arr 0 2 (t1.2.2.2.1.map eWorkItem)), some (.arr 0 2 (o3.1.map eWorkItem)), some (.box [.d (.v (.slice none 0 0)), .d (.v (.slice none 0 0)), .d (.v (.slice none 0 0)), .d (.v (.slice none 0 0)), .d (.v (.slice none 0 0))]), some (.box [.d (.v (.string x1)), .d (.v (.int .i64 o3.2))])]⟩) ?_ ?_
  · have h := ho
    clear ho
    simp only [VW.down, Nat.reduceEqDiff, reduceCtorEq, Nat.reduceAdd, Nat.reduceLeDiff, Nat.reduceLT, Nat.reduceBEq, Nat.reduceSub, EE.down]
    obtain ⟨t4, ht4, h⟩ := Option.bind_eq_some_iff.1 h
    refine callX_n [7, 8] (F41v1_ok (e1 := 0) ht4) ?_ ?_ ?_ ?_ ?_ ?_
    · first | rfl | simp [nrmA, nrmC, nrm, A1.ren, C.ren, rn, List.length_set]
    · simp [liveAll, A1.live, C.live, hp]
    · rfl
    · decide
    · exact ⟨⟨rfl, by simp [Blk.live, C.live, hp]⟩, ⟨⟨rfl, trivial⟩, trivial⟩⟩
    simp only [VW.down, Nat.reduceEqDiff, reduceCtorEq, Nat.reduceAdd, Nat.reduceLeDiff, Nat.reduceLT, Nat.reduceBEq, Nat.reduceSub, EE.down]
    refine condB (fun c5 => ?_) (fun c5 => ?_)
    · have h := (if_pos c5).symm.trans h
      simp only [VW.down, Nat.reduceEqDiff, reduceCtorEq, Nat.reduceAdd, Nat.reduceLeDiff, Nat.reduceLT, Nat.reduceBEq, Nat.reduceSub, EE.down]
      obtain ⟨y6, hy6, h⟩ := Option.bind_eq_some_iff.1 h
      refine t_idxO (enc := eWorkItem) (xs := t2) rfl rfl rfl (by first | rfl | simp only [List.length_set] | exact (clrL_len (slI_len (by assumption))).symm) hy6 ?_
      simp only [VW.down, Nat.reduceEqDiff, reduceCtorEq, Nat.reduceAdd, Nat.reduceLeDiff, Nat.reduceLT, Nat.reduceBEq, Nat.reduceSub, EE.down]
      refine LdRow.rd (rdI_some hy6).2.1 ?_
      simp only [VW.down, Nat.reduceEqDiff, reduceCtorEq, Nat.reduceAdd, Nat.reduceLeDiff, Nat.reduceLT, Nat.reduceBEq, Nat.reduceSub, EE.down]
      obtain ⟨y7, hy7, h⟩ := Option.bind_eq_some_iff.1 h
      refine t_idxO (enc := eWorkItem) (xs := t2) rfl rfl rfl (by first | rfl | simp only [List.length_set] | exact (clrL_len (slI_len (by assumption))).symm) hy7 ?_
      simp only [VW.down, Nat.reduceEqDiff, reduceCtorEq, Nat.reduceAdd, Nat.reduceLeDiff, Nat.reduceLT, Nat.reduceBEq, Nat.reduceSub, EE.down]
      refine StRow.rd (y' := (⟨x1, (if 1000000000000000 < (IntKind.i64.wrap (y6.At + 1)) then 1000000000000000 else (IntKind.i64.wrap (y6.At + 1)))⟩ : WorkItem)) (rdI_some hy7).2.1 (by simp [EE.down]) rfl ?_
      simp only [VW.down, Nat.reduceEqDiff, reduceCtorEq, Nat.reduceAdd, Nat.reduceLeDiff, Nat.reduceLT, Nat.reduceBEq, Nat.reduceSub, EE.down]
      obtain rfl := Option.some.inj h
      exact eM [some 0, some 2, some 3, some 4, some 5, some 8, some 1, some 9] rfl
    · have h := (if_neg c5).symm.trans h
      simp only [VW.down, Nat.reduceEqDiff, reduceCtorEq, Nat.reduceAdd, Nat.reduceLeDiff, Nat.reduceLT, Nat.reduceBEq, Nat.reduceSub, EE.down]
      obtain ⟨t8, ht8, h⟩ := Option.bind_eq_some_iff.1 h
      refine callX_n [7, 8] (F42v1_ok (e1 := 0) ht8) ?_ ?_ ?_ ?_ ?_ ?_
      · first | rfl | simp [nrmA, nrmC, nrm, A1.ren, C.ren, rn, List.length_set]
      · simp [liveAll, A1.live, C.live, hp]
      · rfl
      · decide
      · exact ⟨⟨rfl, by simp [Blk.live, C.live, hp]⟩, ⟨⟨rfl, trivial⟩, trivial⟩⟩
      simp only [VW.down, Nat.reduceEqDiff, reduceCtorEq, Nat.reduceAdd, Nat.reduceLeDiff, Nat.reduceLT, Nat.reduceBEq, Nat.reduceSub, EE.down]
      obtain rfl := Option.some.inj h
      exact eM [some 0, some 2, some 3, some 4, some 5, some 8, some 1, some 9] rfl
  · rintro _ rfl
    clear ho
    simp only [VW.down, Nat.reduceEqDiff, reduceCtorEq, Nat.reduceAdd, Nat.reduceLeDiff, Nat.reduceLT, Nat.reduceBEq, Nat.reduceSub, EE.down]
    obtain ⟨t9, ht9, h⟩ := Option.bind_eq_some_iff.1 h
    refine callX_n [] (F43_ok ht9) ?_ ?_ ?_ ?_ ?_ ?_
    · first | rfl | simp [nrmA, nrmC, nrm, A1.ren, C.ren, rn, List.length_set]
    · simp [liveAll, A1.live, C.live]
    · rfl
    · decide
    · exact trivial
    simp only [VW.down, Nat.reduceEqDiff, reduceCtorEq, Nat.reduceAdd, Nat.reduceLeDiff, Nat.reduceLT, Nat.reduceBEq, Nat.reduceSub, EE.down]
    obtain ⟨t10, ht10, h⟩ := Option.bind_eq_some_iff.1 h
    refine callX_n [] (F44_ok ht10) ?_ ?_ ?_ ?_ ?_ ?_
    · first | rfl | simp [nrmA, nrmC, nrm, A1.ren, C.ren, rn, List.length_set]
    · simp [liveAll, A1.live, C.live]
    · rfl
    · decide
    · exact trivial
    simp only [VW.down, Nat.reduceEqDiff, reduceCtorEq, Nat.reduceAdd, Nat.reduceLeDiff, Nat.reduceLT, Nat.reduceBEq, Nat.reduceSub, EE.down]
    obtain ⟨t11, ht11, h⟩ := Option.bind_eq_some_iff.1 h
    refine callX_borF (F21_ok ht11) (by simp only [borAs, bors, hp, List.getElem?_cons_zero, List.getElem?_cons_succ, Option.join_some, List.drop_zero, bor_full', true_and, Nat.zero_add, List.length_map, Nat.le_refl, nrm, List.length_cons, List.length_nil, Nat.reduceAdd, Nat.reduceLeDiff, List.take_succ_cons, List.take_zero, List.take_nil, List.map_cons, List.map_nil, List.length_set, EE.down]) rfl ⟨flat_rows (enc := eS) (fun _ => rfl) _, flat_rows (enc := eS) (fun _ => rfl) _, flat_rows (enc := eS) (fun _ => rfl) _, flat_rows (enc := eWorkItem) (fun _ => rfl) _, flat_rows (enc := eWorkItem) (fun _ => rfl) _, trivial⟩ ?_
    simp only [VW.down, Nat.reduceEqDiff, reduceCtorEq, Nat.reduceAdd, Nat.reduceLeDiff, Nat.reduceLT, Nat.reduceBEq, Nat.reduceSub, EE.down]
    obtain rfl := Option.some.inj h
    exact eF [some 8, some 9, some 10, some 11, some 12]

/- orchestrator/workqueue.Advance -/
def F20_l2 (t1 : (List ByteArray) × (List ByteArray) × (List ByteArray) × (List WorkItem) × (List WorkItem)) (x1 : Int) : Nat → Int → Option (Int)
  | 0, _ => none
  | k + 1, o2_0 => (((if o2_0 < (t1.2.2.2.1.length : Int) then (rdI t1.2.2.2.1 o2_0).bind fun y5 => some (decide (y5.At ≤ x1)) else some false)).bind fun o3 => (if o3 = true then F20_l2 t1 x1 k ((IntKind.i64.wrap (o2_0 + 1))) else some o2_0))
def F20_l10 (s7 : List WorkItem) : List WorkItem → Nat → (List ByteArray) → (List ByteArray) → (List ByteArray) → (List WorkItem) → (List WorkItem) → Option ((List ByteArray) × (List ByteArray) × (List ByteArray) × (List WorkItem) × (List WorkItem))
  | [], o10_5, o10_0, o10_1, o10_2, o10_3, o10_4 => some ((o10_0, o10_1, o10_2, o10_3, o10_4))
  | xo10 :: xs, o10_5, o10_0, o10_1, o10_2, o10_3, o10_4 => (rdI s7 ((o10_5 : Int))).bind fun y12 => (F15 ((⟨o10_0, o10_1, o10_2, o10_3, o10_4⟩ : WorkQueue)) y12.Key).bind fun t13 => F20_l10 s7 xs (o10_5 + 1) t13.1 t13.2.1 t13.2.2.1 t13.2.2.2.1 t13.2.2.2.2
def F20 (x0 : WorkQueue) (x1 : Int) : Option ((List ByteArray) × (List ByteArray) × (List ByteArray) × (List WorkItem) × (List WorkItem)) := (F32 x0).bind fun t1 => ((F20_l2 t1 x1 1099511627776 0).bind fun o2 => (slI t1.2.2.2.1 0 o2).bind fun s7 => (slI t1.2.2.2.1 o2 ((t1.2.2.2.1.length : Int))).bind fun s8 => (cloneI s8).bind fun t9 => (((ck (0 ≤ s7.length ∧ s7.length ≤ 4294967290)).bind fun u14 => F20_l10 s7 s7 0 t1.1 t1.2.1 t1.2.2.1 t9 t1.2.2.2.2).bind fun o10 => some ((o10.1, o10.2.1, o10.2.2.1, o10.2.2.2.1, o10.2.2.2.2))))
def a20 : AFn := ⟨50, [(.cell 4 (some 5))],
 (.seq (.reg [⟨(some 2), none, .box (.t 0), [], (.new [])⟩,
   ⟨(some 4), none, .zbox [.d (.v (.slice none 0 0)), .d (.v (.slice none 0 0)), .d (.v (.slice none 0 0)), .d (.v (.slice none 0 0)), .d (.v (.slice none 0 0))], [], (.new [])⟩])
 (.seq (.reg [⟨(some 9), none, .load (some 5) (.t 2), [], (.new [])⟩,
   ⟨(some 10), none, .call 32 [(.t 9)], [], (.new [])⟩,
   ⟨none, none, .store 5 (.t 2) (.t 10), [], (.new [])⟩])
 (.seq (.reg [⟨(some 5), none, .mv (kI 0), [], (.new [])⟩])
 (.seq (.sem (.block 0 (.loop (.seq (.seq (.sem (.reg [⟨(some 11), none, .mv (.t 5), [], (.new [])⟩,
   ⟨(some 12), none, .fieldA 3 (.t 2), [], (.new [])⟩,
   ⟨(some 13), none, .load none (.t 12), [], (.new [])⟩,
   ⟨(some 14), none, .len (.t 13), [], (.new [])⟩,
   ⟨(some 15), none, .bin .lss (.t 11) (.t 14), [], (.new [])⟩,
   ⟨(some 16), none, .mv (.t 15), [], (.new [])⟩,
   ⟨(some 17), (some (16, true)), .fieldA 3 (.t 2), [], (.new [])⟩,
   ⟨(some 18), (some (16, true)), .load none (.t 17), [], (.new [])⟩,
   ⟨(some 19), (some (16, true)), .mv (.t 5), [], (.new [])⟩,
   ⟨(some 20), (some (16, true)), .indexA 2 (.t 18) (.t 19), [], (.new [])⟩,
   ⟨(some 21), (some (16, true)), .fieldA 1 (.t 20), [], (.new [])⟩,
   ⟨(some 22), (some (16, true)), .load none (.t 21), [], (.new [])⟩,
   ⟨(some 23), (some (16, true)), .mv (.t 1), [], (.new [])⟩,
   ⟨(some 24), (some (16, true)), .bin .leq (.t 22) (.t 23), [], (.new [])⟩,
   ⟨(some 25), none, .pick (.t 16) (.t 24) (kB false), [], (.lone [2, 12, 13, 2, 17, 18, 20, 21])⟩]))
 (.cond (.t 25)
 .skip
 (.exit 0)))
 (.block 1 (.reg [⟨(some 26), none, .mv (.t 5), [], (.new [])⟩,
   ⟨(some 27), none, .bin .add (.t 26) (kI 1), [], (.new [])⟩,
   ⟨(some 5), none, .mv (.t 27), [], (.new [])⟩]))))))
 (.seq (.reg [⟨(some 28), none, .fieldA 3 (.t 2), [], (.new [])⟩,
   ⟨(some 29), none, .load none (.t 28), [], (.new [])⟩,
   ⟨(some 30), none, .mv (.t 5), [], (.new [])⟩,
   ⟨(some 31), none, .slice 2 (.t 29) none (some (.t 30)) none, [], (.new [])⟩,
   ⟨(some 6), none, .mv (.t 31), [], (.new [])⟩])
 (.seq (.reg [⟨(some 32), none, .fieldA 3 (.t 2), [], (.new [])⟩,
   ⟨(some 33), none, .load none (.t 32), [], (.new [])⟩,
   ⟨(some 34), none, .mv (.t 5), [], (.new [])⟩,
   ⟨(some 35), none, .slice 2 (.t 33) (some (.t 34)) none none, [], (.new [])⟩,
   ⟨(some 36), none, .call 45 [(.t 35)], [], (.new [])⟩,
   ⟨(some 37), none, .fieldA 3 (.t 2), [], (.new [])⟩,
   ⟨none, none, .store 1 (.t 37) (.t 36), [], (.new [])⟩])
 (.seq (.seq (.reg [⟨(some 38), none, .mv (.t 6), [], (.new [])⟩,
   ⟨(some 39), none, .len (.t 38), [], (.new [])⟩,
   ⟨(some 40), none, .mv (kI 0), [], (.new [])⟩])
 (.sem (.block 2 (.loop (.seq (.reg [⟨(some 41), none, .bin .lss (.t 40) (.t 39), [], (.new [])⟩])
 (.seq (.cond (.t 41)
 .skip
 (.exit 2))
 (.seq (.block 3 (.seq (.reg [⟨(some 42), none, .indexA 2 (.t 38) (.t 40), [], (.new [])⟩,
   ⟨(some 43), none, .load (some 2) (.t 42), [], (.new [])⟩,
   ⟨(some 8), none, .zbox [.d (.v (.string ⟨#[]⟩)), .d (.v (.int .i64 0))], [], (.new [])⟩,
   ⟨none, none, .store 2 (.t 8) (.t 43), [], (.new [])⟩])
 (.reg [⟨(some 44), none, .load (some 5) (.t 2), [], (.new [])⟩,
   ⟨(some 45), none, .fieldA 0 (.t 8), [], (.new [])⟩,
   ⟨(some 46), none, .load none (.t 45), [], (.new [])⟩,
   ⟨(some 47), none, .call 15 [(.t 44), (.t 46)], [], (.new [])⟩,
   ⟨none, none, .store 5 (.t 2) (.t 47), [], (.new [])⟩])))
 (.reg [⟨(some 48), none, .bin .add (.t 40) (kI 1), [], (.new [])⟩,
   ⟨(some 40), none, .mv (.t 48), [], (.new [])⟩]))))))))
 (.seq (.reg [⟨(some 49), none, .load (some 5) (.t 2), [], (.new [])⟩,
   ⟨none, none, .store 5 (.t 4) (.t 49), [], (.lone [2])⟩])
 .ret))))))))⟩
theorem a20_ok : afn Try.prog 20 = some a20.er := by kernel_rfl
theorem F20_ok {x0 : WorkQueue} {x1 : Int} {r : (List ByteArray) × (List ByteArray) × (List ByteArray) × (List WorkItem) × (List WorkItem)} (h : F20 x0 x1 = some r) : CallD Try.prog 20 [.agg [.d (.sl (x0.Ready.map eS)), .d (.sl (x0.Working.map eS)), .d (.sl (x0.Dirty.map eS)), .d (.sl (x0.Later.map eWorkItem)), .d (.sl (x0.Retries.map eWorkItem))], .c (.d (.v (.int .i64 x1)))] [] (tupV [.agg [.own 0 0 0 (r.1.length) none, .own 1 0 0 (r.2.1.length) none, .own 2 0 0 (r.2.2.1.length) none, .own 3 0 0 (r.2.2.2.1.length) none, .own 4 0 0 (r.2.2.2.2.length) none]]) [some (.arr 0 1 (r.1.map eS)), some (.arr 0 1 (r.2.1.map eS)), some (.arr 0 1 (r.2.2.1.map eS)), some (.arr 0 2 (r.2.2.2.1.map eWorkItem)), some (.arr 0 2 (r.2.2.2.2.map eWorkItem))] := by
  refine callS a20_ok (by simp [a20]) ?_
  rw [F20] at h
  simp only [a20, VW.down, Nat.reduceEqDiff, reduceCtorEq, Nat.reduceAdd, Nat.reduceLeDiff, Nat.reduceLT, Nat.reduceBEq, Nat.reduceSub, EE.down]
  obtain ⟨t1, ht1, h⟩ := Option.bind_eq_some_iff.1 h
  refine callX_n [] (F32_ok ht1) ?_ ?_ ?_ ?_ ?_ ?_
  · first | rfl | simp [nrmA, nrmC, nrm, A1.ren, C.ren, rn, List.length_set]
  · simp [liveAll, A1.live, C.live]
  · rfl
  · decide
  · exact trivial
  simp only [VW.down, Nat.reduceEqDiff, reduceCtorEq, Nat.reduceAdd, Nat.reduceLeDiff, Nat.reduceLT, Nat.reduceBEq, Nat.reduceSub, EE.down]
  obtain ⟨o2, ho, h⟩ := Option.bind_eq_some_iff.1 h
  refine cutS (fun s => s = ⟨[(2, .one (.c (.pt 0 0))), (4, .one (.c (.pt 6 0))), (5, .one (.c (.d (.v (.int .i64 o2)))))], [some (.box [.own 1 0 0 (t1.1.length) none, .own 2 0 0 (t1.2.1.length) none, .own 3 0 0 (t1.2.2.1.length) none, .own 4 0 0 (t1.2.2.2.1.length) none, .own 5 0 0 (t1.2.2.2.2.length) none]), some (.arr 0 1 (t1.1.map eS)), some (.arr 0 1 (t1.2.1.map eS)), some (.arr 0 1 (t1.2.2.1.map eS)), some (.arr 0 2 (t1.2.2.2.1.map eWorkItem)), some (.arr 0 2 (t1.2.2.2.2.map eWorkItem)), some (.box [.d (.v (.slice none 0 0)), .d (.v (.slice none 0 0)), .d (.v (.slice none 0 0)), .d (.v (.slice none 0 0)), .d (.v (.slice none 0 0))])]⟩) ?_ ?_
  · have h := ho
    clear ho
    simp only [VW.down, Nat.reduceEqDiff, reduceCtorEq, Nat.reduceAdd, Nat.reduceLeDiff, Nat.reduceLT, Nat.reduceBEq, Nat.reduceSub, EE.down]
    refine bL (fun j s => ∃ (o2_0 : Int), s = ⟨[(1, .one (.c (.d (.v (.int .i64 x1))))), (2, .one (.c (.pt 0 0))), (4, .one (.c (.pt 6 0))), (5, .one (.c (.d (.v (.int .i64 o2_0)))))], [some (.box [.own 1 0 0 (t1.1.length) none, .own 2 0 0 (t1.2.1.length) none, .own 3 0 0 (t1.2.2.1.length) none, .own 4 0 0 (t1.2.2.2.1.length) none, .own 5 0 0 (t1.2.2.2.2.length) none]), some (.arr 0 1 (t1.1.map eS)), some (.arr 0 1 (t1.2.1.map eS)), some (.arr 0 1 (t1.2.2.1.map eS)), some (.arr 0 2 (t1.2.2.2.1.map eWorkItem)), some (.arr 0 2 (t1.2.2.2.2.map eWorkItem)), some (.box [.d (.v (.slice none 0 0)), .d (.v (.slice none 0 0)), .d (.v (.slice none 0 0)), .d (.v (.slice none 0 0)), .d (.v (.slice none 0 0))])]⟩ ∧ F20_l2 t1 x1 j o2_0 = some o2) 1099511627776 [some 0, some 2, some 3, some 4, some 5, some 6, some 1] ⟨0, rfl, h⟩ ?_
    rintro j _ ⟨o2_0, rfl, h⟩
    cases j with
    | zero => cases (show (none : Option _) = some _ from h)
    | succ j =>
      rw [F20_l2] at h
      simp only [VW.down, Nat.reduceEqDiff, reduceCtorEq, Nat.reduceAdd, Nat.reduceLeDiff, Nat.reduceLT, Nat.reduceBEq, Nat.reduceSub, EE.down]
      obtain ⟨o3, ho, h⟩ := Option.bind_eq_some_iff.1 h
      refine cutS (fun s => s = ⟨[(1, .one (.c (.d (.v (.int .i64 x1))))), (2, .one (.c (.pt 0 0))), (4, .one (.c (.pt 6 0))), (5, .one (.c (.d (.v (.int .i64 o2_0))))), (25, .one (.c (.d (.v (.bool o3)))))], [some (.box [.own 1 0 0 (t1.1.length) none, .own 2 0 0 (t1.2.1.length) none, .own 3 0 0 (t1.2.2.1.length) none, .own 4 0 0 (t1.2.2.2.1.length) none, .own 5 0 0 (t1.2.2.2.2.length) none]), some (.arr 0 1 (t1.1.map eS)), some (.arr 0 1 (t1.2.1.map eS)), some (.arr 0 1 (t1.2.2.1.map eS)), some (.arr 0 2 (t1.2.2.2.1.map eWorkItem)), some (.arr 0 2 (t1.2.2.2.2.map eWorkItem)), some (.box [.d (.v (.slice none 0 0)), .d (.v (.slice none 0 0)), .d (.v (.slice none 0 0)), .d (.v (.slice none 0 0)), .d (.v (.slice none 0 0))])]⟩) ?_ ?_
      · have h := ho
        clear ho
        simp only [VW.down, Nat.reduceEqDiff, reduceCtorEq, Nat.reduceAdd, Nat.reduceLeDiff, Nat.reduceLT, Nat.reduceBEq, Nat.reduceSub, EE.down]
        refine guardS (fun g4 => ?_) (fun g4 => ?_)
        · have h := (if_pos g4).symm.trans h
          simp only [VW.down, Nat.reduceEqDiff, reduceCtorEq, Nat.reduceAdd, Nat.reduceLeDiff, Nat.reduceLT, Nat.reduceBEq, Nat.reduceSub, EE.down]
          obtain ⟨y5, hy5, h⟩ := Option.bind_eq_some_iff.1 h
          refine t_idxO (enc := eWorkItem) (xs := t1.2.2.2.1) rfl rfl rfl (by first | rfl | simp only [List.length_set] | exact (clrL_len (slI_len (by assumption))).symm) hy5 ?_
          simp only [VW.down, Nat.reduceEqDiff, reduceCtorEq, Nat.reduceAdd, Nat.reduceLeDiff, Nat.reduceLT, Nat.reduceBEq, Nat.reduceSub, EE.down]
          refine LdRow.rd (rdI_some hy5).2.1 ?_
          simp only [VW.down, Nat.reduceEqDiff, reduceCtorEq, Nat.reduceAdd, Nat.reduceLeDiff, Nat.reduceLT, Nat.reduceBEq, Nat.reduceSub, EE.down]
          obtain rfl := Option.some.inj h
          exact eM [some 0, some 1, some 2, some 3, some 4, some 5, some 6] rfl
        · have h := (if_neg g4).symm.trans h
          simp only [VW.down, Nat.reduceEqDiff, reduceCtorEq, Nat.reduceAdd, Nat.reduceLeDiff, Nat.reduceLT, Nat.reduceBEq, Nat.reduceSub, EE.down]
          obtain rfl := Option.some.inj h
          exact eM [some 0, some 1, some 2, some 3, some 4, some 5, some 6] rfl
      · rintro _ rfl
        clear ho
        simp only [VW.down, Nat.reduceEqDiff, reduceCtorEq, Nat.reduceAdd, Nat.reduceLeDiff, Nat.reduceLT, Nat.reduceBEq, Nat.reduceSub, EE.down]
        refine condB (fun c6 => ?_) (fun c6 => ?_)
        · have h := (if_pos c6).symm.trans h
          simp only [VW.down, Nat.reduceEqDiff, reduceCtorEq, Nat.reduceAdd, Nat.reduceLeDiff, Nat.reduceLT, Nat.reduceBEq, Nat.reduceSub, EE.down]
          exact eL' j [some 0, some 1, some 2, some 3, some 4, some 5, some 6] ⟨(IntKind.i64.wrap (o2_0 + 1)), rfl, h⟩ (Nat.lt_succ_self _)
        · have h := (if_neg c6).symm.trans h
          simp only [VW.down, Nat.reduceEqDiff, reduceCtorEq, Nat.reduceAdd, Nat.reduceLeDiff, Nat.reduceLT, Nat.reduceBEq, Nat.reduceSub, EE.down]
          obtain rfl := Option.some.inj h
          exact eM [some 0, some 1, some 2, some 3, some 4, some 5, some 6] rfl
  · rintro _ rfl
    clear ho
    simp only [VW.down, Nat.reduceEqDiff, reduceCtorEq, Nat.reduceAdd, Nat.reduceLeDiff, Nat.reduceLT, Nat.reduceBEq, Nat.reduceSub, EE.down]
    obtain ⟨s7, hs7, h⟩ := Option.bind_eq_some_iff.1 h
    refine t_sliceO (enc := eWorkItem) (xs := t1.2.2.2.1) rfl rfl (by first | rfl | simp only [List.length_set] | exact (clrL_len (slI_len (by assumption))).symm) rfl (by first | rfl | simp only [intV, List.length_set]) hs7 ?_
    simp only [VW.down, Nat.reduceEqDiff, reduceCtorEq, Nat.reduceAdd, Nat.reduceLeDiff, Nat.reduceLT, Nat.reduceBEq, Nat.reduceSub, EE.down]
    obtain ⟨s8, hs8, h⟩ := Option.bind_eq_some_iff.1 h
    refine t_sliceO (enc := eWorkItem) (xs := t1.2.2.2.1) rfl rfl (by first | rfl | simp only [List.length_set] | exact (clrL_len (slI_len (by assumption))).symm) rfl (by first | rfl | simp only [intV, List.length_set]) hs8 ?_
    simp only [VW.down, Nat.reduceEqDiff, reduceCtorEq, Nat.reduceAdd, Nat.reduceLeDiff, Nat.reduceLT, Nat.reduceBEq, Nat.reduceSub, EE.down]
    obtain ⟨t9, ht9, h⟩ := Option.bind_eq_some_iff.1 h
    refine callX_borF (F45_ok ht9) (by simp only [borAs, bors, hp, List.getElem?_cons_zero, List.getElem?_cons_succ, Option.join_some, List.drop_zero, bor_full', true_and, Nat.zero_add, List.length_map, Nat.le_refl, nrm, List.length_cons, List.length_nil, Nat.reduceAdd, Nat.reduceLeDiff, List.take_succ_cons, List.take_zero, List.take_nil, List.map_cons, List.map_nil, List.length_set, EE.down, slI_bor hs8, slI_len' hs8]) rfl ⟨flat_rows (enc := eWorkItem) (fun _ => rfl) _, trivial⟩ ?_
    simp only [VW.down, Nat.reduceEqDiff, reduceCtorEq, Nat.reduceAdd, Nat.reduceLeDiff, Nat.reduceLT, Nat.reduceBEq, Nat.reduceSub, EE.down]
    obtain ⟨o10, ho, h⟩ := Option.bind_eq_some_iff.1 h
    refine cutS (fun s => s = ⟨[(2, .one (.c (.pt 0 0))), (4, .one (.c (.pt 6 0)))], [some (.box [.own 1 0 0 (o10.1.length) none, .own 2 0 0 (o10.2.1.length) none, .own 3 0 0 (o10.2.2.1.length) none, .own 4 0 0 (o10.2.2.2.1.length) none, .own 5 0 0 (o10.2.2.2.2.length) none]), some (.arr 0 1 (o10.1.map eS)), some (.arr 0 1 (o10.2.1.map eS)), some (.arr 0 1 (o10.2.2.1.map eS)), some (.arr 0 2 (o10.2.2.2.1.map eWorkItem)), some (.arr 0 2 (o10.2.2.2.2.map eWorkItem)), some (.box [.d (.v (.slice none 0 0)), .d (.v (.slice none 0 0)), .d (.v (.slice none 0 0)), .d (.v (.slice none 0 0)), .d (.v (.slice none 0 0))])]⟩) ?_ ?_
    · have h := ho
      clear ho
      obtain ⟨_, hk, h⟩ := Option.bind_eq_some_iff.1 h
      have hk := ck_some hk
      simp only [VW.down, Nat.reduceEqDiff, reduceCtorEq, Nat.reduceAdd, Nat.reduceLeDiff, Nat.reduceLT, Nat.reduceBEq, Nat.reduceSub, EE.down]
      refine bL (fun j s => ∃ (o10_5 : Nat) (o10_0 : List ByteArray) (o10_1 : List ByteArray) (o10_2 : List ByteArray) (o10_3 : List WorkItem) (o10_4 : List WorkItem), (o10_5 ≤ s7.length ∧ j = s7.length - o10_5) ∧ s = ⟨[(2, .one (.c (.pt 0 0))), (4, .one (.c (.pt 6 0))), (38, .one (.c (.own 7 0 0 (s7.length) none))), (39, .one (.c (.d (.v (.int .i64 ((s7.length : Int))))))), (40, .one (.c (.d (.v (.int .i64 ((o10_5 : Int)))))))], [some (.box [.own 1 0 0 (o10_0.length) none, .own 2 0 0 (o10_1.length) none, .own 3 0 0 (o10_2.length) none, .own 4 0 0 (o10_3.length) none, .own 5 0 0 (o10_4.length) none]), some (.arr 0 1 (o10_0.map eS)), some (.arr 0 1 (o10_1.map eS)), some (.arr 0 1 (o10_2.map eS)), some (.arr 0 2 (o10_3.map eWorkItem)), some (.arr 0 2 (o10_4.map eWorkItem)), some (.box [.d (.v (.slice none 0 0)), .d (.v (.slice none 0 0)), .d (.v (.slice none 0 0)), .d (.v (.slice none 0 0)), .d (.v (.slice none 0 0))]), some (.arr 0 2 (s7.map eWorkItem))]⟩ ∧ F20_l10 s7 (s7.drop o10_5) o10_5 o10_0 o10_1 o10_2 o10_3 o10_4 = some o10) (s7.length - 0) [some 0, some 1, some 2, some 3, some 7, some 5, some 6, some 4] ⟨0, t1.1, t1.2.1, t1.2.2.1, t9, t1.2.2.2.2, ⟨hk.1, rfl⟩, rfl, h⟩ ?_ (hB := by simp only [ZZ.down, Nat.reduceEqDiff, reduceCtorEq, Nat.reduceAdd, Nat.reduceLeDiff, Nat.reduceLT, Nat.reduceBNe, EE.down, slI_pre hs7, slI_frz0 hs7, slI_le0 hs7]) (hs := by simp only [ZZ.down, Nat.reduceEqDiff, reduceCtorEq, Nat.reduceAdd, Nat.reduceLeDiff, Nat.reduceLT, Nat.reduceBNe, EE.down, slI_pre hs7, slI_frz0 hs7, slI_le0 hs7])
      rintro _ _ ⟨o10_5, o10_0, o10_1, o10_2, o10_3, o10_4, ⟨hi, rfl⟩, rfl, h⟩
      simp only [VW.down, Nat.reduceEqDiff, reduceCtorEq, Nat.reduceAdd, Nat.reduceLeDiff, Nat.reduceLT, Nat.reduceBEq, Nat.reduceSub, EE.down]
      refine condS (fun c11 => ?_) (fun c11 => ?_)
      · obtain ⟨xo10, hxo10, hd⟩ := countY c11
        rw [hd, F20_l10] at h
        simp only [VW.down, Nat.reduceEqDiff, reduceCtorEq, Nat.reduceAdd, Nat.reduceLeDiff, Nat.reduceLT, Nat.reduceBEq, Nat.reduceSub, EE.down]
        obtain ⟨y12, hy12, h⟩ := Option.bind_eq_some_iff.1 h
        refine t_idxO (enc := eWorkItem) (xs := s7) rfl rfl rfl (by first | rfl | simp only [List.length_set] | exact (clrL_len (slI_len (by assumption))).symm) hy12 ?_
        simp only [VW.down, Nat.reduceEqDiff, reduceCtorEq, Nat.reduceAdd, Nat.reduceLeDiff, Nat.reduceLT, Nat.reduceBEq, Nat.reduceSub, EE.down]
        refine LdRow.rd (rdI_some hy12).2.1 ?_
        simp only [VW.down, Nat.reduceEqDiff, reduceCtorEq, Nat.reduceAdd, Nat.reduceLeDiff, Nat.reduceLT, Nat.reduceBEq, Nat.reduceSub, EE.down]
        obtain ⟨t13, ht13, h⟩ := Option.bind_eq_some_iff.1 h
        refine callX_borF (F15_ok ht13) (by simp only [borAs, bors, hp, List.getElem?_cons_zero, List.getElem?_cons_succ, Option.join_some, List.drop_zero, bor_full', true_and, Nat.zero_add, List.length_map, Nat.le_refl, nrm, List.length_cons, List.length_nil, Nat.reduceAdd, Nat.reduceLeDiff, List.take_succ_cons, List.take_zero, List.take_nil, List.map_cons, List.map_nil, List.length_set, EE.down]) rfl ⟨flat_rows (enc := eS) (fun _ => rfl) _, flat_rows (enc := eS) (fun _ => rfl) _, flat_rows (enc := eS) (fun _ => rfl) _, flat_rows (enc := eWorkItem) (fun _ => rfl) _, flat_rows (enc := eWorkItem) (fun _ => rfl) _, trivial⟩ ?_
        simp only [VW.down, Nat.reduceEqDiff, reduceCtorEq, Nat.reduceAdd, Nat.reduceLeDiff, Nat.reduceLT, Nat.reduceBEq, Nat.reduceSub, EE.down]
        rw [wrapN (by omega)]
        exact eL' (s7.length - (o10_5 + 1)) [some 0, some 9, some 10, some 11, some 12, some 13, some 6, some 7] ⟨o10_5 + 1, t13.1, t13.2.1, t13.2.2.1, t13.2.2.2.1, t13.2.2.2.2, ⟨by omega, rfl⟩, rfl, h⟩ (by omega)
      · rw [countN c11, F20_l10] at h
        simp only [VW.down, Nat.reduceEqDiff, reduceCtorEq, Nat.reduceAdd, Nat.reduceLeDiff, Nat.reduceLT, Nat.reduceBEq, Nat.reduceSub, EE.down]
        obtain rfl := Option.some.inj h
        exact eM [some 0, some 1, some 2, some 3, some 4, some 5, some 6] rfl
    · rintro _ rfl
      clear ho
      simp only [VW.down, Nat.reduceEqDiff, reduceCtorEq, Nat.reduceAdd, Nat.reduceLeDiff, Nat.reduceLT, Nat.reduceBEq, Nat.reduceSub, EE.down]
      obtain rfl := Option.some.inj h
      exact eF [some 1, some 2, some 3, some 4, some 5]
end Go.Proofs.Ytpgonamdmlgifaa
