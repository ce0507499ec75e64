/- Each Go function as a function over typed data, and its walk. -/
import Derived.Test.YtdpbdbclninjaaaFE
import Derived.KernelRfl
import Derived.Test.YtdpbdbclninjaaaProg
namespace Go.Proofs.Ytdpbdbclninjaaa
open Go Go.Fw
set_option maxRecDepth 100000
set_option maxHeartbeats 4000000
set_option linter.unusedSimpArgs false
set_option linter.unusedVariables false
structure Act where
  Kind : Int
  Key : ByteArray
  Priority : Int
  N : Int
  deriving DecidableEq
def okAct (x : Act) : Prop := ok8 x.Kind ∧ okT x.Key ∧ okN x.Priority ∧ okN x.N ∧ True
def wAct (x : Act) : Nat := wN x.Kind + (wS x.Key + (wN x.Priority + (wN x.N + 0))) + 1
def eAct (x : Act) : List D := [.v (.int .u8 x.Kind), .v (.string x.Key), .v (.int .i64 x.Priority), .v (.int .i64 x.N)]
structure WorkItem where
  Key : ByteArray
  At : Int
  deriving DecidableEq
def okWorkItem (x : WorkItem) : Prop := okT x.Key ∧ okN x.At ∧ True
def wWorkItem (x : WorkItem) : Nat := wS x.Key + (wN x.At + 0) + 1
def eWorkItem (x : WorkItem) : List D := [.v (.string x.Key), .v (.int .i64 x.At)]
structure SchedQueue where
  Waiting : (List WorkItem)
  Active : (List WorkItem)
  Stuck : (List WorkItem)
  Backoff : (List WorkItem)
  Retries : (List WorkItem)
  Cycle : Int
  deriving DecidableEq
def okSchedQueue (x : SchedQueue) : Prop := (okL okWorkItem) x.Waiting ∧ (okL okWorkItem) x.Active ∧ (okL okWorkItem) x.Stuck ∧ (okL okWorkItem) x.Backoff ∧ (okL okWorkItem) x.Retries ∧ okN x.Cycle ∧ True
def wSchedQueue (x : SchedQueue) : Nat := (wL wWorkItem) x.Waiting + ((wL wWorkItem) x.Active + ((wL wWorkItem) x.Stuck + ((wL wWorkItem) x.Backoff + ((wL wWorkItem) x.Retries + (wN x.Cycle + 0))))) + 1
def eSchedQueue (x : SchedQueue) : List D := [.sl (x.Waiting.map eWorkItem), .sl (x.Active.map eWorkItem), .sl (x.Stuck.map eWorkItem), .sl (x.Backoff.map eWorkItem), .sl (x.Retries.map eWorkItem), .v (.int .i64 x.Cycle)]
def EE := PLift.up (And.intro (And.intro (And.intro @eI.eq_1 @eB.eq_1) (And.intro @eS.eq_1 @eK.eq_1)) (And.intro (And.intro @eL.eq_1 @eAct.eq_1) (And.intro @eWorkItem.eq_1 @eSchedQueue.eq_1)))
theorem eM {n m : Nat} {Q : XT → St → Prop} {R : St → Prop} {s' : St} {sl : List (Nat × AV)} {H' : List (Option Blk)} (σ : Src) (hR : R ⟨sl, H'⟩) (hB : shBs s'.heap σ H' σ H' := by simp only [ZZ.down, Nat.reduceEqDiff, reduceCtorEq, Nat.reduceAdd, Nat.reduceLeDiff, Nat.reduceLT, Nat.reduceBNe, EE.down]) (hk : keepS 0 (s'.heap.take m) σ H' := by simp only [ZZ.down, Nat.reduceEqDiff, reduceCtorEq, Nat.reduceAdd, Nat.reduceLeDiff, Nat.reduceLT, Nat.reduceBNe, EE.down]) (hs : shSl s'.heap σ H' s'.slots sl := by simp only [ZZ.down, Nat.reduceEqDiff, reduceCtorEq, Nat.reduceAdd, Nat.reduceLeDiff, Nat.reduceLT, Nat.reduceBNe, EE.down]) (hn : nodupS σ = true := by rfl) : sM n m R Q .normal s' := endM σ ⟨hB, hn, hk⟩ hs hR
theorem eL' {n m : Nat} {Q : XT → St → Prop} {I : Nat → St → Prop} {j : Nat} (k' : Nat) {s' : St} {sl : List (Nat × AV)} {H' : List (Option Blk)} (σ : Src) (hI : I k' ⟨sl, H'⟩) (hj : k' < j) (hB : shBs s'.heap σ H' σ H' := by simp only [ZZ.down, Nat.reduceEqDiff, reduceCtorEq, Nat.reduceAdd, Nat.reduceLeDiff, Nat.reduceLT, Nat.reduceBNe, EE.down]) (hk : keepS 0 (s'.heap.take m) σ H' := by simp only [ZZ.down, Nat.reduceEqDiff, reduceCtorEq, Nat.reduceAdd, Nat.reduceLeDiff, Nat.reduceLT, Nat.reduceBNe, EE.down]) (hs : shSl s'.heap σ H' s'.slots sl := by simp only [ZZ.down, Nat.reduceEqDiff, reduceCtorEq, Nat.reduceAdd, Nat.reduceLeDiff, Nat.reduceLT, Nat.reduceBNe, EE.down]) (hn : nodupS σ = true := by rfl) : sL n m I j Q .normal s' := endL k' hj σ ⟨hB, hn, hk⟩ hs hI
theorem bL {P : Program} {n m : Nat} {Q : XT → St → Prop} {s : St} {k : List Frm} {body : AC} (I : Nat → St → Prop) (k0 : Nat) {sl : List (Nat × AV)} {H' : List (Option Blk)} (σ : Src) (hI : I k0 ⟨sl, H'⟩) (hr : ∀ j s, I j s → sK P n m body [] (sL n m I j (sU P n m k Q)) s) (hB : shBs s.heap σ H' σ H' := by simp only [ZZ.down, Nat.reduceEqDiff, reduceCtorEq, Nat.reduceAdd, Nat.reduceLeDiff, Nat.reduceLT, Nat.reduceBNe, EE.down]) (hk : keepS 0 (s.heap.take m) σ H' := by simp only [ZZ.down, Nat.reduceEqDiff, reduceCtorEq, Nat.reduceAdd, Nat.reduceLeDiff, Nat.reduceLT, Nat.reduceBNe, EE.down]) (hs : shSl s.heap σ H' s.slots sl := by simp only [ZZ.down, Nat.reduceEqDiff, reduceCtorEq, Nat.reduceAdd, Nat.reduceLeDiff, Nat.reduceLT, Nat.reduceBNe, EE.down]) (hn : nodupS σ = true := by rfl) : WpC P n m (.loop body) (sU P n m k Q) s := begL I k0 σ ⟨hB, hn, hk⟩ hs hI hr
theorem eF {m : Nat} {h : List (Option Blk)} {l res : List A1} {H' : List (Option Blk)} (σ : Src) (hB : shBs h σ H' σ H' := by simp only [ZZ.down, Nat.reduceEqDiff, reduceCtorEq, Nat.reduceAdd, Nat.reduceLeDiff, Nat.reduceLT, Nat.reduceBNe, EE.down]) (hk : keepS 0 (h.take m) σ H' := by simp only [ZZ.down, Nat.reduceEqDiff, reduceCtorEq, Nat.reduceAdd, Nat.reduceLeDiff, Nat.reduceLT, Nat.reduceBNe, EE.down]) (hs : shAs h σ H' res l := by simp only [ZZ.down, Nat.reduceEqDiff, reduceCtorEq, Nat.reduceAdd, Nat.reduceLeDiff, Nat.reduceLT, Nat.reduceBNe, EE.down]) (hn : nodupS σ = true := by rfl) : Fin m h l res H' := fin_sh σ ⟨hB, hn, hk⟩ hs


/- orchestrator/orchestratorlaw42.few -/
def F7_l2  : List Act → Nat → Option ((Bool) ⊕ (Unit))
  | [], o2_0 => some (Sum.inr (()))
  | xo2 :: xs, o2_0 => (if 200 < (xo2.Key.size : Int) then (some false).map Sum.inl else F7_l2  xs (o2_0 + 1))
def F7 (x0 : (List Act)) : Option (Bool) := (if 60 < (x0.length : Int) then some false else (((ck (0 ≤ x0.length ∧ x0.length ≤ 4294967290)).bind fun u5 => F7_l2 x0 0).bind fun o2 => match o2 with | Sum.inl f => some f | Sum.inr po2 => some true))
def a7 : AFn := ⟨19, [(.tmp 2)],
 (.seq (.reg [⟨(some 2), none, .mv (kB false), [], none⟩])
 (.seq (.seq (.reg [⟨(some 5), none, .mv (.t 0), [], none⟩,
   ⟨(some 6), none, .len (.t 5), [], none⟩,
   ⟨(some 7), none, .bin .gtr (.t 6) (kI 60), [], none⟩])
 (.cond (.t 7)
 (.seq (.reg [⟨(some 2), none, .mv (kB false), [], none⟩])
 .ret)
 .skip))
 (.seq (.seq (.reg [⟨(some 8), none, .mv (.t 0), [], none⟩,
   ⟨(some 9), none, .len (.t 8), [], none⟩,
   ⟨(some 10), none, .mv (kI 0), [], none⟩])
 (.sem (.block 0 (.loop (.seq (.reg [⟨(some 11), none, .bin .lss (.t 10) (.t 9), [], none⟩])
 (.seq (.cond (.t 11)
 .skip
 (.exit 0))
 (.seq (.block 1 (.seq (.reg [⟨(some 12), none, .indexA 4 (.t 8) (.t 10), [], none⟩,
   ⟨(some 13), none, .load (some 4) (.t 12), [], none⟩,
   ⟨(some 4), none, .zbox [.d (.v (.int .u8 0)), .d (.v (.string ⟨#[]⟩)), .d (.v (.int .i64 0)), .d (.v (.int .i64 0))], [], none⟩,
   ⟨none, none, .store 4 (.t 4) (.t 13), [], none⟩])
 (.seq (.reg [⟨(some 14), none, .fieldA 1 (.t 4), [], none⟩,
   ⟨(some 15), none, .load none (.t 14), [], none⟩,
   ⟨(some 16), none, .slen (.t 15), [], none⟩,
   ⟨(some 17), none, .bin .gtr (.t 16) (kI 200), [], none⟩])
 (.cond (.t 17)
 (.seq (.reg [⟨(some 2), none, .mv (kB false), [], none⟩])
 .ret)
 .skip))))
 (.reg [⟨(some 18), none, .bin .add (.t 10) (kI 1), [], none⟩,
   ⟨(some 10), none, .mv (.t 18), [], none⟩]))))))))
 (.seq (.reg [⟨(some 2), none, .mv (kB true), [], none⟩])
 .ret))))⟩
theorem a7_ok : afn Try.prog 7 = some a7.er := by kernel_rfl
theorem F7_ok {x0 : (List Act)} {r : Bool} (h : F7 x0 = some r) : CallD Try.prog 7 [.c (.d (.sl (x0.map eAct)))] [] (tupV [.c (.d (.v (.bool r)))]) [] := by
  refine callS a7_ok (by simp [a7]) ?_
  rw [F7] at h
  simp only [a7, VW.down, Nat.reduceEqDiff, reduceCtorEq, Nat.reduceAdd, Nat.reduceLeDiff, Nat.reduceLT, Nat.reduceBEq, Nat.reduceSub, EE.down]
  refine condS (fun c1 => ?_) (fun c1 => ?_)
  · have h := (if_pos c1).symm.trans h
    simp only [VW.down, Nat.reduceEqDiff, reduceCtorEq, Nat.reduceAdd, Nat.reduceLeDiff, Nat.reduceLT, Nat.reduceBEq, Nat.reduceSub, EE.down]
    obtain rfl := Option.some.inj h
    exact eF []
  · have h := (if_neg c1).symm.trans h
    simp only [VW.down, Nat.reduceEqDiff, reduceCtorEq, Nat.reduceAdd, Nat.reduceLeDiff, Nat.reduceLT, Nat.reduceBEq, Nat.reduceSub, EE.down]
    obtain ⟨o2, ho, h⟩ := Option.bind_eq_some_iff.1 h
    refine cutS (fun s => ∃ po2, o2 = Sum.inr po2 ∧ s = ⟨[], []⟩) ?_ ?_
    · have h0o2 := h
      have h := ho
      clear ho
      obtain ⟨_, hk, h⟩ := Option.bind_eq_some_iff.1 h
      have hk := ck_some hk
      simp only [VW.down, Nat.reduceEqDiff, reduceCtorEq, Nat.reduceAdd, Nat.reduceLeDiff, Nat.reduceLT, Nat.reduceBEq, Nat.reduceSub, EE.down]
      refine bL (fun j s => ∃ (o2_0 : Nat), (o2_0 ≤ x0.length ∧ j = x0.length - o2_0) ∧ s = ⟨[(8, .one (.c (.d (.sl (x0.map eAct))))), (9, .one (.c (.d (.v (.int .i64 ((x0.length : Int))))))), (10, .one (.c (.d (.v (.int .i64 ((o2_0 : Int)))))))], []⟩ ∧ F7_l2 (x0.drop o2_0) o2_0 = some o2) (x0.length - 0) [] ⟨0, ⟨hk.1, rfl⟩, rfl, h⟩ ?_
      rintro _ _ ⟨o2_0, ⟨hi, rfl⟩, rfl, h⟩
      simp only [VW.down, Nat.reduceEqDiff, reduceCtorEq, Nat.reduceAdd, Nat.reduceLeDiff, Nat.reduceLT, Nat.reduceBEq, Nat.reduceSub, EE.down]
      refine condS (fun c3 => ?_) (fun c3 => ?_)
      · obtain ⟨xo2, hxo2, hd⟩ := countY c3
        rw [hd, F7_l2] at h
        simp only [VW.down, Nat.reduceEqDiff, reduceCtorEq, Nat.reduceAdd, Nat.reduceLeDiff, Nat.reduceLT, Nat.reduceBEq, Nat.reduceSub, EE.down]
        refine t_idxF (enc := eAct) (xs := x0) rfl rfl hxo2 rfl ?_
        simp only [VW.down, Nat.reduceEqDiff, reduceCtorEq, Nat.reduceAdd, Nat.reduceLeDiff, Nat.reduceLT, Nat.reduceBEq, Nat.reduceSub, EE.down]
        refine condS (fun c4 => ?_) (fun c4 => ?_)
        · have h := (if_pos c4).symm.trans h
          simp only [VW.down, Nat.reduceEqDiff, reduceCtorEq, Nat.reduceAdd, Nat.reduceLeDiff, Nat.reduceLT, Nat.reduceBEq, Nat.reduceSub, EE.down]
          obtain ⟨fh0o2, hfh0o2, rfl⟩ := Option.map_eq_some_iff.1 h
          have h := hfh0o2.trans h0o2
          obtain rfl := Option.some.inj h
          exact eF []
        · have h := (if_neg c4).symm.trans h
          simp only [VW.down, Nat.reduceEqDiff, reduceCtorEq, Nat.reduceAdd, Nat.reduceLeDiff, Nat.reduceLT, Nat.reduceBEq, Nat.reduceSub, EE.down]
          rw [wrapN (by omega)]
          exact eL' (x0.length - (o2_0 + 1)) [] ⟨o2_0 + 1, ⟨by omega, rfl⟩, rfl, h⟩ (by omega)
      · rw [countN c3, F7_l2] at h
        simp only [VW.down, Nat.reduceEqDiff, reduceCtorEq, Nat.reduceAdd, Nat.reduceLeDiff, Nat.reduceLT, Nat.reduceBEq, Nat.reduceSub, EE.down]
        obtain rfl := Option.some.inj h
        exact eM [] ⟨_, rfl, rfl⟩
    · rintro _ ⟨po2, rfl, rfl⟩
      clear ho
      dsimp only at h
      simp only [VW.down, Nat.reduceEqDiff, reduceCtorEq, Nat.reduceAdd, Nat.reduceLeDiff, Nat.reduceLT, Nat.reduceBEq, Nat.reduceSub, EE.down]
      obtain rfl := Option.some.inj h
      exact eF []

/- orchestrator/schedqueue.New -/
def F9  : Option (Unit) := some (())
def a9 : AFn := ⟨2, [(.cell 0 (some 6))],
 (.seq (.reg [⟨(some 0), none, .zbox [.d (.v (.slice none 0 0)), .d (.v (.slice none 0 0)), .d (.v (.slice none 0 0)), .d (.v (.slice none 0 0)), .d (.v (.slice none 0 0)), .d (.v (.int .i64 0))], [], (some [])⟩])
 (.seq (.reg [⟨(some 1), none, .build [.d (.v (.slice none 0 0)), .d (.v (.slice none 0 0)), .d (.v (.slice none 0 0)), .d (.v (.slice none 0 0)), .d (.v (.slice none 0 0)), .d (.v (.int .i64 0))] [], [], none⟩,
   ⟨none, none, .store 6 (.t 0) (.t 1), [], none⟩])
 .ret))⟩
theorem a9_ok : afn Try.prog 9 = some a9.er := by kernel_rfl
theorem F9_ok {r : Unit} (h : F9 = some r) : CallD Try.prog 9 [] [] (tupV [.agg [.d (.sl (([] : List WorkItem).map eWorkItem)), .d (.sl (([] : List WorkItem).map eWorkItem)), .d (.sl (([] : List WorkItem).map eWorkItem)), .d (.sl (([] : List WorkItem).map eWorkItem)), .d (.sl (([] : List WorkItem).map eWorkItem)), .d (.v (.int .i64 0))]]) [] := by
  refine callS a9_ok (by simp [a9]) ?_
  rw [F9] at h
  simp only [a9, VW.down, Nat.reduceEqDiff, reduceCtorEq, Nat.reduceAdd, Nat.reduceLeDiff, Nat.reduceLT, Nat.reduceBEq, Nat.reduceSub, EE.down]
  obtain rfl := Option.some.inj h
  exact eF []

/- slices.Index[[]orchestrator/api.WorkItem,orchestrator/api.WorkItem] -/
def F51_l1 (x1 : WorkItem) : List WorkItem → Nat → Option ((Int) ⊕ (Unit))
  | [], o1_0 => some (Sum.inr (()))
  | xo1 :: xs, o1_0 => (if x1.Key = xo1.Key ∧ x1.At = xo1.At then (some ((o1_0 : Int))).map Sum.inl else F51_l1 x1 xs (o1_0 + 1))
def F51 (x0 : (List WorkItem)) (x1 : WorkItem) : Option (Int) := (((ck (0 ≤ x0.length ∧ x0.length ≤ 4294967290)).bind fun u4 => F51_l1 x1 x0 0).bind fun o1 => match o1 with | Sum.inl f => some f | Sum.inr po1 => some ((-1)))
def a51 : AFn := ⟨19, [(.tmp 4)],
 (.seq (.reg [⟨(some 3), none, .box (.t 1), [], none⟩,
   ⟨(some 4), none, .mv (kI 0), [], none⟩])
 (.seq (.seq (.reg [⟨(some 6), none, .mv (.t 0), [], none⟩,
   ⟨(some 7), none, .len (.t 6), [], none⟩,
   ⟨(some 8), none, .mv (kI 0), [], none⟩])
 (.sem (.block 0 (.loop (.seq (.reg [⟨(some 9), none, .bin .lss (.t 8) (.t 7), [], none⟩])
 (.seq (.cond (.t 9)
 .skip
 (.exit 0))
 (.seq (.block 1 (.seq (.reg [⟨(some 10), none, .mv (.t 8), [], none⟩,
   ⟨(some 5), none, .mv (.t 10), [], none⟩])
 (.seq (.regd [⟨(some 11), none, .load (some 2) (.t 3), [], none⟩,
   ⟨(some 12), none, .mv (.t 0), [], none⟩,
   ⟨(some 13), none, .mv (.t 5), [], none⟩,
   ⟨(some 14), none, .indexA 2 (.t 12) (.t 13), [1, 2], none⟩,
   ⟨(some 15), none, .load (some 2) (.t 14), [1, 2, 3], none⟩,
   ⟨(some 16), none, .eqs false [(0, 2), (1, 0)] (.t 11) (.t 15), [0, 1, 2, 3, 4], (some [])⟩])
 (.cond (.t 16)
 (.seq (.reg [⟨(some 17), none, .mv (.t 5), [], none⟩,
   ⟨(some 4), none, .mv (.t 17), [], none⟩])
 .ret)
 .skip))))
 (.reg [⟨(some 18), none, .bin .add (.t 8) (kI 1), [], none⟩,
   ⟨(some 8), none, .mv (.t 18), [], none⟩]))))))))
 (.seq (.reg [⟨(some 4), none, .mv (kI (-1)), [], none⟩])
 .ret)))⟩
theorem a51_ok : afn Try.prog 51 = some a51.er := by kernel_rfl
theorem F51_ok {x0 : (List WorkItem)} {x1 : WorkItem} {r : Int} (h : F51 x0 x1 = some r) : CallD Try.prog 51 [.c (.d (.sl (x0.map eWorkItem))), .agg [.d (.v (.string x1.Key)), .d (.v (.int .i64 x1.At))]] [] (tupV [.c (.d (.v (.int .i64 r)))]) [] := by
  refine callS a51_ok (by simp [a51]) ?_
  rw [F51] at h
  simp only [a51, VW.down, Nat.reduceEqDiff, reduceCtorEq, Nat.reduceAdd, Nat.reduceLeDiff, Nat.reduceLT, Nat.reduceBEq, Nat.reduceSub, EE.down]
  obtain ⟨o1, ho, h⟩ := Option.bind_eq_some_iff.1 h
  refine cutS (fun s => ∃ po1, o1 = Sum.inr po1 ∧ s = ⟨[], []⟩) ?_ ?_
  · have h0o1 := h
    have h := ho
    clear ho
    obtain ⟨_, hk, h⟩ := Option.bind_eq_some_iff.1 h
    have hk := ck_some hk
    simp only [VW.down, Nat.reduceEqDiff, reduceCtorEq, Nat.reduceAdd, Nat.reduceLeDiff, Nat.reduceLT, Nat.reduceBEq, Nat.reduceSub, EE.down]
    refine bL (fun j s => ∃ (o1_0 : Nat), (o1_0 ≤ x0.length ∧ j = x0.length - o1_0) ∧ s = ⟨[(0, .one (.c (.d (.sl (x0.map eWorkItem))))), (3, .one (.c (.pt 0 0))), (7, .one (.c (.d (.v (.int .i64 ((x0.length : Int))))))), (8, .one (.c (.d (.v (.int .i64 ((o1_0 : Int)))))))], [some (.box [.d (.v (.string x1.Key)), .d (.v (.int .i64 x1.At))])]⟩ ∧ F51_l1 x1 (x0.drop o1_0) o1_0 = some o1) (x0.length - 0) [some 0] ⟨0, ⟨hk.1, rfl⟩, rfl, h⟩ ?_
    rintro _ _ ⟨o1_0, ⟨hi, rfl⟩, rfl, h⟩
    simp only [VW.down, Nat.reduceEqDiff, reduceCtorEq, Nat.reduceAdd, Nat.reduceLeDiff, Nat.reduceLT, Nat.reduceBEq, Nat.reduceSub, EE.down]
    refine condS (fun c2 => ?_) (fun c2 => ?_)
    · obtain ⟨xo1, hxo1, hd⟩ := countY c2
      rw [hd, F51_l1] at h
      simp only [VW.down, Nat.reduceEqDiff, reduceCtorEq, Nat.reduceAdd, Nat.reduceLeDiff, Nat.reduceLT, Nat.reduceBEq, Nat.reduceSub, EE.down]
      refine t_idxF (enc := eWorkItem) (xs := x0) rfl rfl hxo1 rfl ?_
      simp only [VW.down, Nat.reduceEqDiff, reduceCtorEq, Nat.reduceAdd, Nat.reduceLeDiff, Nat.reduceLT, Nat.reduceBEq, Nat.reduceSub, EE.down]
      refine condS (fun c3 => ?_) (fun c3 => ?_)
      · have h := (if_pos c3).symm.trans h
        simp only [VW.down, Nat.reduceEqDiff, reduceCtorEq, Nat.reduceAdd, Nat.reduceLeDiff, Nat.reduceLT, Nat.reduceBEq, Nat.reduceSub, EE.down]
        obtain ⟨fh0o1, hfh0o1, rfl⟩ := Option.map_eq_some_iff.1 h
        have h := hfh0o1.trans h0o1
        obtain rfl := Option.some.inj h
        exact eF []
      · have h := (if_neg c3).symm.trans h
        simp only [VW.down, Nat.reduceEqDiff, reduceCtorEq, Nat.reduceAdd, Nat.reduceLeDiff, Nat.reduceLT, Nat.reduceBEq, Nat.reduceSub, EE.down]
        rw [wrapN (by omega)]
        exact eL' (x0.length - (o1_0 + 1)) [some 0] ⟨o1_0 + 1, ⟨by omega, rfl⟩, rfl, h⟩ (by omega)
    · rw [countN c2, F51_l1] at h
      simp only [VW.down, Nat.reduceEqDiff, reduceCtorEq, Nat.reduceAdd, Nat.reduceLeDiff, Nat.reduceLT, Nat.reduceBEq, Nat.reduceSub, EE.down]
      obtain rfl := Option.some.inj h
      exact eM [] ⟨_, rfl, rfl⟩
  · rintro _ ⟨po1, rfl, rfl⟩
    clear ho
    dsimp only at h
    simp only [VW.down, Nat.reduceEqDiff, reduceCtorEq, Nat.reduceAdd, Nat.reduceLeDiff, Nat.reduceLT, Nat.reduceBEq, Nat.reduceSub, EE.down]
    obtain rfl := Option.some.inj h
    exact eF []

/- slices.Contains[[]orchestrator/api.WorkItem,orchestrator/api.WorkItem] -/
def F33 (x0 : (List WorkItem)) (x1 : WorkItem) : Option (Bool) := (F51 x0 x1).bind fun t1 => some (decide (0 ≤ t1))
def a33 : AFn := ⟨9, [(.tmp 4)],
 (.seq (.reg [⟨(some 3), none, .box (.t 1), [], none⟩,
   ⟨(some 4), none, .mv (kB false), [], none⟩])
 (.seq (.reg [⟨(some 5), none, .mv (.t 0), [], none⟩,
   ⟨(some 6), none, .load (some 2) (.t 3), [], none⟩,
   ⟨(some 7), none, .call 51 [(.t 5), (.t 6)], [], none⟩,
   ⟨(some 8), none, .bin .geq (.t 7) (kI 0), [], none⟩,
   ⟨(some 4), none, .mv (.t 8), [], none⟩])
 .ret))⟩
theorem a33_ok : afn Try.prog 33 = some a33.er := by kernel_rfl
theorem F33_ok {x0 : (List WorkItem)} {x1 : WorkItem} {r : Bool} (h : F33 x0 x1 = some r) : CallD Try.prog 33 [.c (.d (.sl (x0.map eWorkItem))), .agg [.d (.v (.string x1.Key)), .d (.v (.int .i64 x1.At))]] [] (tupV [.c (.d (.v (.bool r)))]) [] := by
  refine callS a33_ok (by simp [a33]) ?_
  rw [F33] at h
  simp only [a33, VW.down, Nat.reduceEqDiff, reduceCtorEq, Nat.reduceAdd, Nat.reduceLeDiff, Nat.reduceLT, Nat.reduceBEq, Nat.reduceSub, EE.down]
  obtain ⟨t1, ht1, h⟩ := Option.bind_eq_some_iff.1 h
  refine callX_n [] (F51_ok ht1) ?_ ?_ ?_ ?_ ?_ ?_
  · first | rfl | simp [nrmA, nrmC, nrm, A1.ren, C.ren, rn, List.length_set]
  · simp [liveAll, A1.live, C.live]
  · rfl
  · decide
  · exact trivial
  simp only [VW.down, Nat.reduceEqDiff, reduceCtorEq, Nat.reduceAdd, Nat.reduceLeDiff, Nat.reduceLT, Nat.reduceBEq, Nat.reduceSub, EE.down]
  obtain rfl := Option.some.inj h
  exact eF []

/- slices.Clone[[]orchestrator/api.WorkItem,orchestrator/api.WorkItem] -/
theorem a52_ok : afn Try.prog 52 = some (cloneA 2 24) := by kernel_rfl
theorem F52_ok {x0 r : List WorkItem} (h : cloneI x0 = some r) : CallD Try.prog 52 [.c (.d (.sl (x0.map eWorkItem)))] [] (tupV [.c (.own 0 1 0 r.length none)]) [some (.arr 1 2 (r.map eWorkItem))] := L_clone a52_ok (fun _ => rfl) h

/- orchestrator/schedqueue.copied -/
def F34 (x0 : SchedQueue) : Option ((List WorkItem) × (List WorkItem) × (List WorkItem) × (List WorkItem) × (List WorkItem)) := (cloneI x0.Active).bind fun t1 => (cloneI x0.Stuck).bind fun t2 => (cloneI x0.Backoff).bind fun t3 => (cloneI x0.Waiting).bind fun t4 => (cloneI x0.Retries).bind fun t5 => some ((t4, t1, t2, t3, t5))
def a34 : AFn := ⟨24, [(.cell 2 (some 6))],
 (.seq (.reg [⟨(some 1), none, .box (.t 0), [], none⟩,
   ⟨(some 2), none, .zbox [.d (.v (.slice none 0 0)), .d (.v (.slice none 0 0)), .d (.v (.slice none 0 0)), .d (.v (.slice none 0 0)), .d (.v (.slice none 0 0)), .d (.v (.int .i64 0))], [], none⟩])
 (.seq (.regd [⟨(some 3), none, .fieldA 1 (.t 1), [], none⟩,
   ⟨(some 4), none, .load none (.t 3), [0], none⟩,
   ⟨(some 5), none, .call 52 [(.t 4)], [0, 1], none⟩,
   ⟨(some 6), none, .fieldA 2 (.t 1), [], none⟩,
   ⟨(some 7), none, .load none (.t 6), [3], none⟩,
   ⟨(some 8), none, .call 52 [(.t 7)], [0, 1, 2, 3, 4], none⟩,
   ⟨(some 9), none, .fieldA 3 (.t 1), [], none⟩,
   ⟨(some 10), none, .load none (.t 9), [6], none⟩,
   ⟨(some 11), none, .call 52 [(.t 10)], [0, 1, 2, 3, 4, 5, 6, 7], none⟩,
   ⟨(some 12), none, .fieldA 1 (.t 1), [0, 1, 2, 3, 4, 6, 7], none⟩,
   ⟨none, none, .store 1 (.t 12) (.t 5), [0, 1, 2, 3, 4, 5, 6, 7, 8, 9], (some [])⟩,
   ⟨(some 13), none, .fieldA 2 (.t 1), [0, 1, 2, 3, 4, 5, 6, 7, 8, 9, 10], none⟩,
   ⟨none, none, .store 1 (.t 13) (.t 8), [0, 1, 2, 3, 4, 5, 6, 7, 8, 9, 10, 11], (some [])⟩,
   ⟨(some 14), none, .fieldA 3 (.t 1), [0, 1, 2, 3, 4, 5, 6, 7, 8, 9, 10, 11, 12], none⟩,
   ⟨none, none, .store 1 (.t 14) (.t 11), [0, 1, 2, 3, 4, 5, 6, 7, 8, 9, 10, 11, 12, 13], (some [])⟩])
 (.seq (.regd [⟨(some 15), none, .fieldA 0 (.t 1), [], none⟩,
   ⟨(some 16), none, .load none (.t 15), [0], none⟩,
   ⟨(some 17), none, .call 52 [(.t 16)], [0, 1], none⟩,
   ⟨(some 18), none, .fieldA 4 (.t 1), [], none⟩,
   ⟨(some 19), none, .load none (.t 18), [3], none⟩,
   ⟨(some 20), none, .call 52 [(.t 19)], [0, 1, 2, 3, 4], none⟩,
   ⟨(some 21), none, .fieldA 0 (.t 1), [0, 1, 2, 3, 4], none⟩,
   ⟨none, none, .store 1 (.t 21) (.t 17), [0, 1, 2, 3, 4, 5, 6], (some [])⟩,
   ⟨(some 22), none, .fieldA 4 (.t 1), [0, 1, 2, 3, 4, 5, 6, 7], none⟩,
   ⟨none, none, .store 1 (.t 22) (.t 20), [0, 1, 2, 3, 4, 5, 6, 7, 8], (some [])⟩])
 (.seq (.reg [⟨(some 23), none, .load (some 6) (.t 1), [], none⟩,
   ⟨none, none, .store 6 (.t 2) (.t 23), [], (some [1])⟩])
 .ret))))⟩
theorem a34_ok : afn Try.prog 34 = some a34.er := by kernel_rfl
theorem F34_ok {x0 : SchedQueue} {r : (List WorkItem) × (List WorkItem) × (List WorkItem) × (List WorkItem) × (List WorkItem)} (h : F34 x0 = some r) : CallD Try.prog 34 [.agg [.d (.sl (x0.Waiting.map eWorkItem)), .d (.sl (x0.Active.map eWorkItem)), .d (.sl (x0.Stuck.map eWorkItem)), .d (.sl (x0.Backoff.map eWorkItem)), .d (.sl (x0.Retries.map eWorkItem)), .d (.v (.int .i64 x0.Cycle))]] [] (tupV [.agg [.own 0 0 0 (r.1.length) none, .own 1 0 0 (r.2.1.length) none, .own 2 0 0 (r.2.2.1.length) none, .own 3 0 0 (r.2.2.2.1.length) none, .own 4 0 0 (r.2.2.2.2.length) none, .d (.v (.int .i64 x0.Cycle))]]) [some (.arr 0 2 (r.1.map eWorkItem)), some (.arr 0 2 (r.2.1.map eWorkItem)), some (.arr 0 2 (r.2.2.1.map eWorkItem)), some (.arr 0 2 (r.2.2.2.1.map eWorkItem)), some (.arr 0 2 (r.2.2.2.2.map eWorkItem))] := by
  refine callS a34_ok (by simp [a34]) ?_
  rw [F34] at h
  simp only [a34, VW.down, Nat.reduceEqDiff, reduceCtorEq, Nat.reduceAdd, Nat.reduceLeDiff, Nat.reduceLT, Nat.reduceBEq, Nat.reduceSub, EE.down]
  obtain ⟨t1, ht1, h⟩ := Option.bind_eq_some_iff.1 h
  refine callX_n [] (F52_ok ht1) ?_ ?_ ?_ ?_ ?_ ?_
  · first | rfl | simp [nrmA, nrmC, nrm, A1.ren, C.ren, rn, List.length_set]
  · simp [liveAll, A1.live, C.live]
  · rfl
  · decide
  · exact trivial
  simp only [VW.down, Nat.reduceEqDiff, reduceCtorEq, Nat.reduceAdd, Nat.reduceLeDiff, Nat.reduceLT, Nat.reduceBEq, Nat.reduceSub, EE.down]
  refine kD_new (by simp [wrs, allW, hset]) ?_
  simp only [VW.down, Nat.reduceEqDiff, reduceCtorEq, Nat.reduceAdd, Nat.reduceLeDiff, Nat.reduceLT, Nat.reduceBEq, Nat.reduceSub, EE.down]
  obtain ⟨t2, ht2, h⟩ := Option.bind_eq_some_iff.1 h
  refine callX_n [] (F52_ok ht2) ?_ ?_ ?_ ?_ ?_ ?_
  · first | rfl | simp [nrmA, nrmC, nrm, A1.ren, C.ren, rn, List.length_set]
  · simp [liveAll, A1.live, C.live]
  · rfl
  · decide
  · exact trivial
  simp only [VW.down, Nat.reduceEqDiff, reduceCtorEq, Nat.reduceAdd, Nat.reduceLeDiff, Nat.reduceLT, Nat.reduceBEq, Nat.reduceSub, EE.down]
  refine kD_new (by simp [wrs, allW, hset]) ?_
  simp only [VW.down, Nat.reduceEqDiff, reduceCtorEq, Nat.reduceAdd, Nat.reduceLeDiff, Nat.reduceLT, Nat.reduceBEq, Nat.reduceSub, EE.down]
  obtain ⟨t3, ht3, h⟩ := Option.bind_eq_some_iff.1 h
  refine callX_n [] (F52_ok ht3) ?_ ?_ ?_ ?_ ?_ ?_
  · first | rfl | simp [nrmA, nrmC, nrm, A1.ren, C.ren, rn, List.length_set]
  · simp [liveAll, A1.live, C.live]
  · rfl
  · decide
  · exact trivial
  simp only [VW.down, Nat.reduceEqDiff, reduceCtorEq, Nat.reduceAdd, Nat.reduceLeDiff, Nat.reduceLT, Nat.reduceBEq, Nat.reduceSub, EE.down]
  refine kD_new (by simp [wrs, allW, hset]) ?_
  simp only [VW.down, Nat.reduceEqDiff, reduceCtorEq, Nat.reduceAdd, Nat.reduceLeDiff, Nat.reduceLT, Nat.reduceBEq, Nat.reduceSub, EE.down]
  obtain ⟨t4, ht4, h⟩ := Option.bind_eq_some_iff.1 h
  refine callX_n [] (F52_ok ht4) ?_ ?_ ?_ ?_ ?_ ?_
  · first | rfl | simp [nrmA, nrmC, nrm, A1.ren, C.ren, rn, List.length_set]
  · simp [liveAll, A1.live, C.live]
  · rfl
  · decide
  · exact trivial
  simp only [VW.down, Nat.reduceEqDiff, reduceCtorEq, Nat.reduceAdd, Nat.reduceLeDiff, Nat.reduceLT, Nat.reduceBEq, Nat.reduceSub, EE.down]
  refine kD_new (by simp [wrs, allW, hset]) ?_
  simp only [VW.down, Nat.reduceEqDiff, reduceCtorEq, Nat.reduceAdd, Nat.reduceLeDiff, Nat.reduceLT, Nat.reduceBEq, Nat.reduceSub, EE.down]
  obtain ⟨t5, ht5, h⟩ := Option.bind_eq_some_iff.1 h
  refine callX_n [] (F52_ok ht5) ?_ ?_ ?_ ?_ ?_ ?_
  · first | rfl | simp [nrmA, nrmC, nrm, A1.ren, C.ren, rn, List.length_set]
  · simp [liveAll, A1.live, C.live]
  · rfl
  · decide
  · exact trivial
  simp only [VW.down, Nat.reduceEqDiff, reduceCtorEq, Nat.reduceAdd, Nat.reduceLeDiff, Nat.reduceLT, Nat.reduceBEq, Nat.reduceSub, EE.down]
  refine kD_new (by simp [wrs, allW, hset]) ?_
  simp only [VW.down, Nat.reduceEqDiff, reduceCtorEq, Nat.reduceAdd, Nat.reduceLeDiff, Nat.reduceLT, Nat.reduceBEq, Nat.reduceSub, EE.down]
  obtain rfl := Option.some.inj h
  exact eF [some 5, some 2, some 3, some 4, some 6]

/- orchestrator/schedqueue.without$1 -/
def F59 (x0 : WorkItem) (b0 : ByteArray) : Option (Unit) := some (())
def a59 : AFn := ⟨8, [(.tmp 3)],
 (.seq (.reg [⟨(some 2), none, .box (.t 0), [], none⟩,
   ⟨(some 3), none, .mv (kB false), [], none⟩])
 (.seq (.reg [⟨(some 4), none, .fieldA 0 (.t 2), [], none⟩,
   ⟨(some 5), none, .load none (.t 4), [], none⟩,
   ⟨(some 6), none, .load none (.t 1), [], none⟩,
   ⟨(some 7), none, .bin .eql (.t 5) (.t 6), [], none⟩,
   ⟨(some 3), none, .mv (.t 7), [], none⟩])
 .ret))⟩
theorem a59_ok : afn Try.prog 59 = some a59.er := by kernel_rfl
theorem F59_ok {x0 : WorkItem} {b0 : ByteArray} {r : Unit} (h : F59 x0 b0 = some r) : CallD Try.prog 59 [.agg [.d (.v (.string x0.Key)), .d (.v (.int .i64 x0.At))], .c (.pt 0 0)] [some (.box [.d (.v (.string b0))])] (tupV [.c (.d (.v (.bool (decide (x0.Key = b0)))))]) [some (.box [.d (.v (.string b0))])] := by
  refine callS a59_ok (by simp [a59]) ?_
  rw [F59] at h
  simp only [a59, VW.down, Nat.reduceEqDiff, reduceCtorEq, Nat.reduceAdd, Nat.reduceLeDiff, Nat.reduceLT, Nat.reduceBEq, Nat.reduceSub, EE.down]
  obtain rfl := Option.some.inj h
  exact eF [some 0]

/- slices.IndexFunc[[]orchestrator/api.WorkItem,orchestrator/api.WorkItem] -/
def F55v1_l1 (b1 : ByteArray) (x0 : (List WorkItem)) : List WorkItem → Nat → Option ((Int) ⊕ (Unit))
  | [], o1_0 => some (Sum.inr (()))
  | xo1 :: xs, o1_0 => (rdI x0 ((o1_0 : Int))).bind fun y3 => (F59 y3 b1).bind fun t4 => (if y3.Key = b1 then (some ((o1_0 : Int))).map Sum.inl else F55v1_l1 b1 x0 xs (o1_0 + 1))
def F55v1 (x0 : (List WorkItem)) (b1 : ByteArray) : Option (Int) := (((ck (0 ≤ x0.length ∧ x0.length ≤ 4294967290)).bind fun u6 => F55v1_l1 b1 x0 x0 0).bind fun o1 => match o1 with | Sum.inl f => some f | Sum.inr po1 => some ((-1)))
def a55v1 : AFn := ⟨19, [(.tmp 4)],
 (.seq (.reg [⟨(some 4), none, .mv (kI 0), [], none⟩])
 (.seq (.seq (.reg [⟨(some 6), none, .mv (.t 0), [], none⟩,
   ⟨(some 7), none, .len (.t 6), [], none⟩,
   ⟨(some 8), none, .mv (kI 0), [], none⟩])
 (.sem (.block 0 (.loop (.seq (.reg [⟨(some 9), none, .bin .lss (.t 8) (.t 7), [], none⟩])
 (.seq (.cond (.t 9)
 .skip
 (.exit 0))
 (.seq (.block 1 (.seq (.reg [⟨(some 10), none, .mv (.t 8), [], none⟩,
   ⟨(some 5), none, .mv (.t 10), [], none⟩])
 (.seq (.reg [⟨(some 11), none, .mv (.t 1), [], none⟩,
   ⟨(some 12), none, .mv (.t 0), [], none⟩,
   ⟨(some 13), none, .mv (.t 5), [], none⟩,
   ⟨(some 14), none, .indexA 2 (.t 12) (.t 13), [], none⟩,
   ⟨(some 15), none, .load (some 2) (.t 14), [], none⟩,
   ⟨(some 16), none, .callv (.t 11) [(.t 15)], [], (some [12, 14])⟩])
 (.cond (.t 16)
 (.seq (.reg [⟨(some 17), none, .mv (.t 5), [], none⟩,
   ⟨(some 4), none, .mv (.t 17), [], none⟩])
 .ret)
 .skip))))
 (.reg [⟨(some 18), none, .bin .add (.t 8) (kI 1), [], none⟩,
   ⟨(some 8), none, .mv (.t 18), [], none⟩]))))))))
 (.seq (.reg [⟨(some 4), none, .mv (kI (-1)), [], none⟩])
 .ret)))⟩
theorem a55v1_ok : afn Try.prog 55 = some a55v1.er := by kernel_rfl
theorem F55v1_ok {x0 : (List WorkItem)} {b1 : ByteArray} {r : Int} {e0 : Nat} (h : F55v1 x0 b1 = some r) : CallD Try.prog 55 [.c (.own 0 e0 0 (x0.length) none), .c (.fn 59 [(1, 0)])] [some (.arr e0 2 (x0.map eWorkItem)), some (.box [.d (.v (.string b1))])] (tupV [.c (.d (.v (.int .i64 r)))]) [some (.arr e0 2 (x0.map eWorkItem)), some (.box [.d (.v (.string b1))])] := by
  refine callS a55v1_ok (by simp [a55v1]) ?_
  rw [F55v1] at h
  simp only [a55v1, VW.down, Nat.reduceEqDiff, reduceCtorEq, Nat.reduceAdd, Nat.reduceLeDiff, Nat.reduceLT, Nat.reduceBEq, Nat.reduceSub, EE.down]
  obtain ⟨o1, ho, h⟩ := Option.bind_eq_some_iff.1 h
  refine cutS (fun s => ∃ po1, o1 = Sum.inr po1 ∧ s = ⟨[], [some (.arr e0 2 (x0.map eWorkItem)), some (.box [.d (.v (.string b1))])]⟩) ?_ ?_
  · have h0o1 := h
    have h := ho
    clear ho
    obtain ⟨_, hk, h⟩ := Option.bind_eq_some_iff.1 h
    have hk := ck_some hk
    simp only [VW.down, Nat.reduceEqDiff, reduceCtorEq, Nat.reduceAdd, Nat.reduceLeDiff, Nat.reduceLT, Nat.reduceBEq, Nat.reduceSub, EE.down]
    refine bL (fun j s => ∃ (o1_0 : Nat), (o1_0 ≤ x0.length ∧ j = x0.length - o1_0) ∧ s = ⟨[(0, .one (.c (.own 0 e0 0 (x0.length) none))), (1, .one (.c (.fn 59 [(1, 0)]))), (7, .one (.c (.d (.v (.int .i64 ((x0.length : Int))))))), (8, .one (.c (.d (.v (.int .i64 ((o1_0 : Int)))))))], [some (.arr e0 2 (x0.map eWorkItem)), some (.box [.d (.v (.string b1))])]⟩ ∧ F55v1_l1 b1 x0 (x0.drop o1_0) o1_0 = some o1) (x0.length - 0) [some 0, some 1] ⟨0, ⟨hk.1, rfl⟩, rfl, h⟩ ?_
    rintro _ _ ⟨o1_0, ⟨hi, rfl⟩, rfl, h⟩
    simp only [VW.down, Nat.reduceEqDiff, reduceCtorEq, Nat.reduceAdd, Nat.reduceLeDiff, Nat.reduceLT, Nat.reduceBEq, Nat.reduceSub, EE.down]
    refine condS (fun c2 => ?_) (fun c2 => ?_)
    · obtain ⟨xo1, hxo1, hd⟩ := countY c2
      rw [hd, F55v1_l1] at h
      simp only [VW.down, Nat.reduceEqDiff, reduceCtorEq, Nat.reduceAdd, Nat.reduceLeDiff, Nat.reduceLT, Nat.reduceBEq, Nat.reduceSub, EE.down]
      obtain ⟨y3, hy3, h⟩ := Option.bind_eq_some_iff.1 h
      refine t_idxO (enc := eWorkItem) (xs := x0) rfl rfl rfl (by first | rfl | simp only [List.length_set] | exact (clrL_len (slI_len (by assumption))).symm) hy3 ?_
      simp only [VW.down, Nat.reduceEqDiff, reduceCtorEq, Nat.reduceAdd, Nat.reduceLeDiff, Nat.reduceLT, Nat.reduceBEq, Nat.reduceSub, EE.down]
      refine LdRow.rd (rdI_some hy3).2.1 ?_
      simp only [VW.down, Nat.reduceEqDiff, reduceCtorEq, Nat.reduceAdd, Nat.reduceLeDiff, Nat.reduceLT, Nat.reduceBEq, Nat.reduceSub, EE.down]
      obtain ⟨t4, ht4, h⟩ := Option.bind_eq_some_iff.1 h
      refine callX_n [1] (F59_ok ht4) ?_ ?_ ?_ ?_ ?_ ?_
      · first | rfl | simp [nrmA, nrmC, nrm, A1.ren, C.ren, rn, List.length_set]
      · simp [liveAll, A1.live, C.live, hp]
      · rfl
      · decide
      · exact ⟨⟨rfl, by simp [Blk.live, C.live, hp]⟩, trivial⟩
      simp only [VW.down, Nat.reduceEqDiff, reduceCtorEq, Nat.reduceAdd, Nat.reduceLeDiff, Nat.reduceLT, Nat.reduceBEq, Nat.reduceSub, EE.down]
      refine condS (fun c5 => ?_) (fun c5 => ?_)
      · have h := (if_pos c5).symm.trans h
        simp only [VW.down, Nat.reduceEqDiff, reduceCtorEq, Nat.reduceAdd, Nat.reduceLeDiff, Nat.reduceLT, Nat.reduceBEq, Nat.reduceSub, EE.down]
        obtain ⟨fh0o1, hfh0o1, rfl⟩ := Option.map_eq_some_iff.1 h
        have h := hfh0o1.trans h0o1
        obtain rfl := Option.some.inj h
        exact eF [some 0, some 1]
      · have h := (if_neg c5).symm.trans h
        simp only [VW.down, Nat.reduceEqDiff, reduceCtorEq, Nat.reduceAdd, Nat.reduceLeDiff, Nat.reduceLT, Nat.reduceBEq, Nat.reduceSub, EE.down]
        rw [wrapN (by omega)]
        exact eL' (x0.length - (o1_0 + 1)) [some 0, some 1] ⟨o1_0 + 1, ⟨by omega, rfl⟩, rfl, h⟩ (by omega)
    · rw [countN c2, F55v1_l1] at h
      simp only [VW.down, Nat.reduceEqDiff, reduceCtorEq, Nat.reduceAdd, Nat.reduceLeDiff, Nat.reduceLT, Nat.reduceBEq, Nat.reduceSub, EE.down]
      obtain rfl := Option.some.inj h
      exact eM [some 0, some 1] ⟨_, rfl, rfl⟩
  · rintro _ ⟨po1, rfl, rfl⟩
    clear ho
    dsimp only at h
    simp only [VW.down, Nat.reduceEqDiff, reduceCtorEq, Nat.reduceAdd, Nat.reduceLeDiff, Nat.reduceLT, Nat.reduceBEq, Nat.reduceSub, EE.down]
    obtain rfl := Option.some.inj h
    exact eF [some 0, some 1]

/- slices.DeleteFunc[[]orchestrator/api.WorkItem,orchestrator/api.WorkItem] -/
def F58_l3 (b1 : ByteArray) : Nat → (List WorkItem) → Int → Int → Option ((List WorkItem) × Int)
  | 0, _, _, _ => none
  | k + 1, o3_0, o3_1, o3_2 => (if o3_2 < (o3_0.length : Int) then (((rdI o3_0 o3_2).bind fun y6 => (F59 y6 b1).bind fun t7 => (if ¬ (y6.Key = b1) then (rdI o3_0 o3_1).bind fun y9 => some (((o3_0.set o3_1.toNat y6), (IntKind.i64.wrap (o3_1 + 1)))) else some ((o3_0, o3_1)))).bind fun o5 => F58_l3 b1 k o5.1 o5.2 ((IntKind.i64.wrap (o3_2 + 1)))) else some ((o3_0, o3_1)))
def F58 (x0 : (List WorkItem)) (b1 : ByteArray) : Option ((List WorkItem)) := (F55v1 x0 b1).bind fun t1 => (if t1 = (-1) then some x0 else ((F58_l3 b1 1099511627776 x0 t1 ((IntKind.i64.wrap (t1 + 1)))).bind fun o3 => (slI o3.1 o3.2 ((o3.1.length : Int))).bind fun s10 => (slI ((clrL o3.1 o3.2.toNat s10.length ((⟨(⟨#[]⟩ : ByteArray), 0⟩ : WorkItem)))) 0 o3.2).bind fun s11 => some s11))
def a58 : AFn := ⟨42, [(.tmp 4)],
 (.seq (.reg [⟨(some 4), none, .mv kN, [], none⟩])
 (.seq (.reg [⟨(some 8), none, .mv (.t 0), [], none⟩,
   ⟨(some 9), none, .mv (.t 1), [], none⟩,
   ⟨(some 10), none, .call 55 [(.t 8), (.t 9)], [], none⟩,
   ⟨(some 5), none, .mv (.t 10), [], none⟩])
 (.seq (.seq (.reg [⟨(some 11), none, .mv (.t 5), [], none⟩,
   ⟨(some 12), none, .bin .eql (.t 11) (kI (-1)), [], none⟩])
 (.cond (.t 12)
 (.seq (.reg [⟨(some 13), none, .mv (.t 0), [], none⟩,
   ⟨(some 4), none, .mv (.t 13), [], none⟩])
 .ret)
 .skip))
 (.seq (.seq (.reg [⟨(some 14), none, .mv (.t 5), [], none⟩,
   ⟨(some 15), none, .bin .add (.t 14) (kI 1), [], none⟩,
   ⟨(some 6), none, .mv (.t 15), [], none⟩])
 (.sem (.block 0 (.loop (.seq (.seq (.reg [⟨(some 16), none, .mv (.t 6), [], none⟩,
   ⟨(some 17), none, .mv (.t 0), [], none⟩,
   ⟨(some 18), none, .len (.t 17), [], none⟩,
   ⟨(some 19), none, .bin .lss (.t 16) (.t 18), [], none⟩])
 (.cond (.t 19)
 .skip
 (.exit 0)))
 (.seq (.sem (.block 1 (.seq (.reg [⟨(some 22), none, .mv (.t 0), [], none⟩,
   ⟨(some 23), none, .mv (.t 6), [], none⟩,
   ⟨(some 24), none, .indexA 2 (.t 22) (.t 23), [], none⟩,
   ⟨(some 25), none, .load (some 2) (.t 24), [], none⟩,
   ⟨(some 7), none, .zbox [.d (.v (.string ⟨#[]⟩)), .d (.v (.int .i64 0))], [], none⟩,
   ⟨none, none, .store 2 (.t 7) (.t 25), [], none⟩])
 (.seq (.reg [⟨(some 26), none, .mv (.t 1), [], none⟩,
   ⟨(some 27), none, .load (some 2) (.t 7), [], none⟩,
   ⟨(some 28), none, .callv (.t 26) [(.t 27)], [], none⟩,
   ⟨(some 29), none, .not (.t 28), [], none⟩])
 (.cond (.t 29)
 (.seq (.reg [⟨(some 30), none, .mv (.t 0), [], none⟩,
   ⟨(some 31), none, .mv (.t 5), [], none⟩,
   ⟨(some 32), none, .load (some 2) (.t 7), [], none⟩,
   ⟨(some 33), none, .indexA 2 (.t 30) (.t 31), [], none⟩,
   ⟨none, none, .store 2 (.t 33) (.t 32), [], (some [7, 30])⟩])
 (.reg [⟨(some 34), none, .mv (.t 5), [], none⟩,
   ⟨(some 35), none, .bin .add (.t 34) (kI 1), [], none⟩,
   ⟨(some 5), none, .mv (.t 35), [], none⟩]))
 .skip)))))
 (.reg [⟨(some 20), none, .mv (.t 6), [], none⟩,
   ⟨(some 21), none, .bin .add (.t 20) (kI 1), [], none⟩,
   ⟨(some 6), none, .mv (.t 21), [], none⟩])))))))
 (.seq (.reg [⟨(some 36), none, .mv (.t 0), [], none⟩,
   ⟨(some 37), none, .mv (.t 5), [], none⟩,
   ⟨(some 38), none, .slice 2 (.t 36) (some (.t 37)) none none, [], none⟩,
   ⟨none, none, .clear 2 [.v (.string ⟨#[]⟩), .v (.int .i64 0)] (.t 38), [], none⟩])
 (.seq (.reg [⟨(some 39), none, .mv (.t 0), [], none⟩,
   ⟨(some 40), none, .mv (.t 5), [], none⟩,
   ⟨(some 41), none, .slice 2 (.t 39) none (some (.t 40)) none, [], none⟩,
   ⟨(some 4), none, .mv (.t 41), [], none⟩])
 .ret))))))⟩
theorem a58_ok : afn Try.prog 58 = some a58.er := by kernel_rfl
theorem F58_ok {x0 : (List WorkItem)} {b1 : ByteArray} {r : (List WorkItem)} {e0 : Nat} (h : F58 x0 b1 = some r) : CallD Try.prog 58 [.c (.own 0 e0 0 (x0.length) none), .c (.fn 59 [(1, 0)])] [some (.arr e0 2 (x0.map eWorkItem)), some (.box [.d (.v (.string b1))])] (tupV [.c (.own 0 (e0 + 1) 0 (r.length) none)]) [some (.arr (e0 + 1) 2 (r.map eWorkItem)), some (.box [.d (.v (.string b1))])] := by
  refine callS a58_ok (by simp [a58]) ?_
  rw [F58] at h
  simp only [a58, VW.down, Nat.reduceEqDiff, reduceCtorEq, Nat.reduceAdd, Nat.reduceLeDiff, Nat.reduceLT, Nat.reduceBEq, Nat.reduceSub, EE.down]
  obtain ⟨t1, ht1, h⟩ := Option.bind_eq_some_iff.1 h
  refine callX_n [0, 1] (F55v1_ok (e0 := e0) ht1) ?_ ?_ ?_ ?_ ?_ ?_
  · first | rfl | simp [nrmA, nrmC, nrm, A1.ren, C.ren, rn, List.length_set]
  · simp [liveAll, A1.live, C.live, hp]
  · rfl
  · decide
  · exact ⟨⟨rfl, trivial⟩, ⟨⟨rfl, by simp [Blk.live, C.live, hp]⟩, trivial⟩⟩
  simp only [VW.down, Nat.reduceEqDiff, reduceCtorEq, Nat.reduceAdd, Nat.reduceLeDiff, Nat.reduceLT, Nat.reduceBEq, Nat.reduceSub, EE.down]
  refine condS (fun c2 => ?_) (fun c2 => ?_)
  · have h := (if_pos c2).symm.trans h
    simp only [VW.down, Nat.reduceEqDiff, reduceCtorEq, Nat.reduceAdd, Nat.reduceLeDiff, Nat.reduceLT, Nat.reduceBEq, Nat.reduceSub, EE.down]
    obtain rfl := Option.some.inj h
    exact eF [some 0, some 1]
  · have h := (if_neg c2).symm.trans h
    simp only [VW.down, Nat.reduceEqDiff, reduceCtorEq, Nat.reduceAdd, Nat.reduceLeDiff, Nat.reduceLT, Nat.reduceBEq, Nat.reduceSub, EE.down]
    obtain ⟨o3, ho, h⟩ := Option.bind_eq_some_iff.1 h
    refine cutS (fun s => s = ⟨[(0, .one (.c (.own 0 e0 0 (o3.1.length) none))), (5, .one (.c (.d (.v (.int .i64 o3.2)))))], [some (.arr e0 2 (o3.1.map eWorkItem)), some (.box [.d (.v (.string b1))])]⟩) ?_ ?_
    · have h := ho
      clear ho
      simp only [VW.down, Nat.reduceEqDiff, reduceCtorEq, Nat.reduceAdd, Nat.reduceLeDiff, Nat.reduceLT, Nat.reduceBEq, Nat.reduceSub, EE.down]
      refine bL (fun j s => ∃ (o3_0 : List WorkItem) (o3_1 : Int) (o3_2 : Int), s = ⟨[(0, .one (.c (.own 0 e0 0 (o3_0.length) none))), (1, .one (.c (.fn 59 [(1, 0)]))), (5, .one (.c (.d (.v (.int .i64 o3_1))))), (6, .one (.c (.d (.v (.int .i64 o3_2)))))], [some (.arr e0 2 (o3_0.map eWorkItem)), some (.box [.d (.v (.string b1))])]⟩ ∧ F58_l3 b1 j o3_0 o3_1 o3_2 = some o3) 1099511627776 [some 0, some 1] ⟨x0, t1, (IntKind.i64.wrap (t1 + 1)), rfl, h⟩ ?_
      rintro j _ ⟨o3_0, o3_1, o3_2, rfl, h⟩
      cases j with
      | zero => cases (show (none : Option _) = some _ from h)
      | succ j =>
        rw [F58_l3] at h
        simp only [VW.down, Nat.reduceEqDiff, reduceCtorEq, Nat.reduceAdd, Nat.reduceLeDiff, Nat.reduceLT, Nat.reduceBEq, Nat.reduceSub, EE.down]
        refine condS (fun c4 => ?_) (fun c4 => ?_)
        · have h := (if_pos c4).symm.trans h
          simp only [VW.down, Nat.reduceEqDiff, reduceCtorEq, Nat.reduceAdd, Nat.reduceLeDiff, Nat.reduceLT, Nat.reduceBEq, Nat.reduceSub, EE.down]
          obtain ⟨o5, ho, h⟩ := Option.bind_eq_some_iff.1 h
          refine cutS (fun s => s = ⟨[(0, .one (.c (.own 0 e0 0 (o5.1.length) none))), (1, .one (.c (.fn 59 [(1, 0)]))), (5, .one (.c (.d (.v (.int .i64 o5.2))))), (6, .one (.c (.d (.v (.int .i64 o3_2)))))], [some (.arr e0 2 (o5.1.map eWorkItem)), some (.box [.d (.v (.string b1))])]⟩) ?_ ?_
          · have h := ho
            clear ho
            simp only [VW.down, Nat.reduceEqDiff, reduceCtorEq, Nat.reduceAdd, Nat.reduceLeDiff, Nat.reduceLT, Nat.reduceBEq, Nat.reduceSub, EE.down]
            obtain ⟨y6, hy6, h⟩ := Option.bind_eq_some_iff.1 h
            refine t_idxO (enc := eWorkItem) (xs := o3_0) rfl rfl rfl (by first | rfl | simp only [List.length_set] | exact (clrL_len (slI_len (by assumption))).symm) hy6 ?_
            simp only [VW.down, Nat.reduceEqDiff, reduceCtorEq, Nat.reduceAdd, Nat.reduceLeDiff, Nat.reduceLT, Nat.reduceBEq, Nat.reduceSub, EE.down]
            refine LdRow.rd (rdI_some hy6).2.1 ?_
            simp only [VW.down, Nat.reduceEqDiff, reduceCtorEq, Nat.reduceAdd, Nat.reduceLeDiff, Nat.reduceLT, Nat.reduceBEq, Nat.reduceSub, EE.down]
            obtain ⟨t7, ht7, h⟩ := Option.bind_eq_some_iff.1 h
            refine callX_n [1] (F59_ok ht7) ?_ ?_ ?_ ?_ ?_ ?_
            · first | rfl | simp [nrmA, nrmC, nrm, A1.ren, C.ren, rn, List.length_set]
            · simp [liveAll, A1.live, C.live, hp]
            · rfl
            · decide
            · exact ⟨⟨rfl, by simp [Blk.live, C.live, hp]⟩, trivial⟩
            simp only [VW.down, Nat.reduceEqDiff, reduceCtorEq, Nat.reduceAdd, Nat.reduceLeDiff, Nat.reduceLT, Nat.reduceBEq, Nat.reduceSub, EE.down]
            refine condS (fun c8 => ?_) (fun c8 => ?_)
            · have h := (if_pos c8).symm.trans h
              simp only [VW.down, Nat.reduceEqDiff, reduceCtorEq, Nat.reduceAdd, Nat.reduceLeDiff, Nat.reduceLT, Nat.reduceBEq, Nat.reduceSub, EE.down]
              obtain ⟨y9, hy9, h⟩ := Option.bind_eq_some_iff.1 h
              refine t_idxO (enc := eWorkItem) (xs := o3_0) rfl rfl rfl (by first | rfl | simp only [List.length_set] | exact (clrL_len (slI_len (by assumption))).symm) hy9 ?_
              simp only [VW.down, Nat.reduceEqDiff, reduceCtorEq, Nat.reduceAdd, Nat.reduceLeDiff, Nat.reduceLT, Nat.reduceBEq, Nat.reduceSub, EE.down]
              refine StRow.rd (y' := y6) (rdI_some hy9).2.1 (by simp [EE.down]) rfl ?_
              simp only [VW.down, Nat.reduceEqDiff, reduceCtorEq, Nat.reduceAdd, Nat.reduceLeDiff, Nat.reduceLT, Nat.reduceBEq, Nat.reduceSub, EE.down]
              obtain rfl := Option.some.inj h
              exact eM [some 0, some 1] rfl
            · have h := (if_neg c8).symm.trans h
              simp only [VW.down, Nat.reduceEqDiff, reduceCtorEq, Nat.reduceAdd, Nat.reduceLeDiff, Nat.reduceLT, Nat.reduceBEq, Nat.reduceSub, EE.down]
              obtain rfl := Option.some.inj h
              exact eM [some 0, some 1] rfl
          · rintro _ rfl
            clear ho
            simp only [VW.down, Nat.reduceEqDiff, reduceCtorEq, Nat.reduceAdd, Nat.reduceLeDiff, Nat.reduceLT, Nat.reduceBEq, Nat.reduceSub, EE.down]
            exact eL' j [some 0, some 1] ⟨o5.1, o5.2, (IntKind.i64.wrap (o3_2 + 1)), rfl, h⟩ (Nat.lt_succ_self _)
        · have h := (if_neg c4).symm.trans h
          simp only [VW.down, Nat.reduceEqDiff, reduceCtorEq, Nat.reduceAdd, Nat.reduceLeDiff, Nat.reduceLT, Nat.reduceBEq, Nat.reduceSub, EE.down]
          obtain rfl := Option.some.inj h
          exact eM [some 0, some 1] rfl
    · rintro _ rfl
      clear ho
      simp only [VW.down, Nat.reduceEqDiff, reduceCtorEq, Nat.reduceAdd, Nat.reduceLeDiff, Nat.reduceLT, Nat.reduceBEq, Nat.reduceSub, EE.down]
      obtain ⟨s10, hs10, h⟩ := Option.bind_eq_some_iff.1 h
      refine t_sliceO (enc := eWorkItem) (xs := o3.1) rfl rfl (by first | rfl | simp only [List.length_set] | exact (clrL_len (slI_len (by assumption))).symm) rfl (by first | rfl | simp only [intV, List.length_set]) hs10 ?_
      simp only [VW.down, Nat.reduceEqDiff, reduceCtorEq, Nat.reduceAdd, Nat.reduceLeDiff, Nat.reduceLT, Nat.reduceBEq, Nat.reduceSub, EE.down]
      refine t_clear (enc := eWorkItem) (xs := o3.1) (z := (⟨(⟨#[]⟩ : ByteArray), 0⟩ : WorkItem)) rfl rfl rfl (Nat.le_trans (Nat.le_add_right _ _) (slI_len hs10)) ?_
      simp only [VW.down, Nat.reduceEqDiff, reduceCtorEq, Nat.reduceAdd, Nat.reduceLeDiff, Nat.reduceLT, Nat.reduceBEq, Nat.reduceSub, EE.down]
      obtain ⟨s11, hs11, h⟩ := Option.bind_eq_some_iff.1 h
      refine t_sliceO (enc := eWorkItem) (xs := ((clrL o3.1 o3.2.toNat s10.length ((⟨(⟨#[]⟩ : ByteArray), 0⟩ : WorkItem))))) rfl rfl (by first | rfl | simp only [List.length_set] | exact (clrL_len (slI_len (by assumption))).symm) rfl (by first | rfl | simp only [intV, List.length_set]) hs11 ?_
      simp only [VW.down, Nat.reduceEqDiff, reduceCtorEq, Nat.reduceAdd, Nat.reduceLeDiff, Nat.reduceLT, Nat.reduceBEq, Nat.reduceSub, EE.down]
      obtain rfl := Option.some.inj h
      exact eF [some 0, some 1] (hB := by simp only [ZZ.down, Nat.reduceEqDiff, reduceCtorEq, Nat.reduceAdd, Nat.reduceLeDiff, Nat.reduceLT, Nat.reduceBNe, EE.down, slI_pre hs11, slI_frz0 hs11, slI_le0 hs11]) (hs := by simp only [ZZ.down, Nat.reduceEqDiff, reduceCtorEq, Nat.reduceAdd, Nat.reduceLeDiff, Nat.reduceLT, Nat.reduceBNe, EE.down, slI_pre hs11, slI_frz0 hs11, slI_le0 hs11])

/- orchestrator/schedqueue.without -/
def F41 (x0 : (List WorkItem)) (x1 : ByteArray) : Option ((List WorkItem)) := (cloneI x0).bind fun t1 => (F58 t1 x1).bind fun t2 => some t2
def a41 : AFn := ⟨9, [(.tmp 4)],
 (.seq (.reg [⟨(some 3), none, .box (.t 1), [], none⟩,
   ⟨(some 4), none, .mv kN, [], none⟩])
 (.seq (.reg [⟨(some 5), none, .mv (.t 0), [], none⟩,
   ⟨(some 6), none, .call 52 [(.t 5)], [], none⟩,
   ⟨(some 7), none, .fn 59 [(.t 3)], [], none⟩,
   ⟨(some 8), none, .call 58 [(.t 6), (.t 7)], [], none⟩,
   ⟨(some 4), none, .mv (.t 8), [], none⟩])
 .ret))⟩
theorem a41_ok : afn Try.prog 41 = some a41.er := by kernel_rfl
theorem F41_ok {x0 : (List WorkItem)} {x1 : ByteArray} {r : (List WorkItem)} (h : F41 x0 x1 = some r) : CallD Try.prog 41 [.c (.d (.sl (x0.map eWorkItem))), .c (.d (.v (.string x1)))] [] (tupV [.c (.own 0 0 0 (r.length) none)]) [some (.arr 0 2 (r.map eWorkItem))] := by
  refine callS a41_ok (by simp [a41]) ?_
  rw [F41] at h
  simp only [a41, VW.down, Nat.reduceEqDiff, reduceCtorEq, Nat.reduceAdd, Nat.reduceLeDiff, Nat.reduceLT, Nat.reduceBEq, Nat.reduceSub, EE.down]
  obtain ⟨t1, ht1, h⟩ := Option.bind_eq_some_iff.1 h
  refine callX_n [] (F52_ok ht1) ?_ ?_ ?_ ?_ ?_ ?_
  · first | rfl | simp [nrmA, nrmC, nrm, A1.ren, C.ren, rn, List.length_set]
  · simp [liveAll, A1.live, C.live]
  · rfl
  · decide
  · exact trivial
  simp only [VW.down, Nat.reduceEqDiff, reduceCtorEq, Nat.reduceAdd, Nat.reduceLeDiff, Nat.reduceLT, Nat.reduceBEq, Nat.reduceSub, EE.down]
  obtain ⟨t2, ht2, h⟩ := Option.bind_eq_some_iff.1 h
  refine callX_n [1, 0] (F58_ok (e0 := 1) ht2) ?_ ?_ ?_ ?_ ?_ ?_
  · first | rfl | simp [nrmA, nrmC, nrm, A1.ren, C.ren, rn, List.length_set]
  · simp [liveAll, A1.live, C.live, hp]
  · rfl
  · decide
  · exact ⟨⟨rfl, trivial⟩, ⟨⟨rfl, by simp [Blk.live, C.live, hp]⟩, trivial⟩⟩
  simp only [VW.down, Nat.reduceEqDiff, reduceCtorEq, Nat.reduceAdd, Nat.reduceLeDiff, Nat.reduceLT, Nat.reduceBEq, Nat.reduceSub, EE.down]
  obtain rfl := Option.some.inj h
  exact eF [some 1]

/- orchestrator/schedqueue.takeOut -/
def F35 (x0 : SchedQueue) (x1 : ByteArray) : Option ((List WorkItem) × (List WorkItem) × (List WorkItem) × (List WorkItem) × ((List WorkItem))) := (((F34 x0).bind fun t2 => some ((t2.1, t2.2.1, t2.2.2.1, t2.2.2.2.1, t2.2.2.2.2))).bind fun o1 => (F41 o1.2.1 x1).bind fun t3 => (F41 o1.2.2.1 x1).bind fun t4 => (F41 o1.2.2.2.1 x1).bind fun t5 => (F41 o1.1 x1).bind fun t6 => some ((t6, t3, t4, t5, o1.2.2.2.2)))
def a35 : AFn := ⟨28, [(.cell 4 (some 6))],
 (.seq (.reg [⟨(some 2), none, .box (.t 0), [], none⟩,
   ⟨(some 4), none, .zbox [.d (.v (.slice none 0 0)), .d (.v (.slice none 0 0)), .d (.v (.slice none 0 0)), .d (.v (.slice none 0 0)), .d (.v (.slice none 0 0)), .d (.v (.int .i64 0))], [], none⟩])
 (.seq (.sem (.reg [⟨(some 5), none, .load (some 6) (.t 2), [], none⟩,
   ⟨(some 6), none, .call 34 [(.t 5)], [], none⟩,
   ⟨none, none, .store 6 (.t 2) (.t 6), [], none⟩]))
 (.seq (.regd [⟨(some 7), none, .fieldA 1 (.t 2), [], none⟩,
   ⟨(some 8), none, .load none (.t 7), [0], none⟩,
   ⟨(some 9), none, .mv (.t 1), [], none⟩,
   ⟨(some 10), none, .call 41 [(.t 8), (.t 9)], [0, 1, 2], none⟩,
   ⟨(some 11), none, .fieldA 2 (.t 2), [], none⟩,
   ⟨(some 12), none, .load none (.t 11), [4], none⟩,
   ⟨(some 13), none, .mv (.t 1), [], none⟩,
   ⟨(some 14), none, .call 41 [(.t 12), (.t 13)], [0, 1, 2, 3, 4, 5, 6], none⟩,
   ⟨(some 15), none, .fieldA 3 (.t 2), [], none⟩,
   ⟨(some 16), none, .load none (.t 15), [8], none⟩,
   ⟨(some 17), none, .mv (.t 1), [], none⟩,
   ⟨(some 18), none, .call 41 [(.t 16), (.t 17)], [0, 1, 2, 3, 4, 5, 6, 7, 8, 9, 10], none⟩,
   ⟨(some 19), none, .fieldA 0 (.t 2), [], none⟩,
   ⟨(some 20), none, .load none (.t 19), [12], none⟩,
   ⟨(some 21), none, .mv (.t 1), [], none⟩,
   ⟨(some 22), none, .call 41 [(.t 20), (.t 21)], [0, 1, 2, 3, 4, 5, 6, 7, 8, 9, 10, 11, 12, 13, 14], none⟩,
   ⟨(some 23), none, .fieldA 1 (.t 2), [0, 1, 2, 3, 4, 5, 8, 9, 12, 13], none⟩,
   ⟨none, none, .store 1 (.t 23) (.t 10), [0, 1, 2, 3, 4, 5, 6, 7, 8, 9, 10, 11, 12, 13, 14, 15, 16], (some [])⟩,
   ⟨(some 24), none, .fieldA 2 (.t 2), [0, 1, 2, 3, 4, 5, 6, 7, 8, 9, 10, 11, 12, 13, 14, 15, 16, 17], none⟩,
   ⟨none, none, .store 1 (.t 24) (.t 14), [0, 1, 2, 3, 4, 5, 6, 7, 8, 9, 10, 11, 12, 13, 14, 15, 16, 17, 18], (some [])⟩,
   ⟨(some 25), none, .fieldA 3 (.t 2), [0, 1, 2, 3, 4, 5, 6, 7, 8, 9, 10, 11, 12, 13, 14, 15, 16, 17, 18, 19], none⟩,
   ⟨none, none, .store 1 (.t 25) (.t 18), [0, 1, 2, 3, 4, 5, 6, 7, 8, 9, 10, 11, 12, 13, 14, 15, 16, 17, 18, 19, 20], (some [])⟩,
   ⟨(some 26), none, .fieldA 0 (.t 2), [0, 1, 2, 3, 4, 5, 6, 7, 8, 9, 10, 11, 12, 13, 14, 15, 16, 17, 18, 19, 20, 21], none⟩,
   ⟨none, none, .store 1 (.t 26) (.t 22), [0, 1, 2, 3, 4, 5, 6, 7, 8, 9, 10, 11, 12, 13, 14, 15, 16, 17, 18, 19, 20, 21, 22], (some [])⟩])
 (.seq (.reg [⟨(some 27), none, .load (some 6) (.t 2), [], none⟩,
   ⟨none, none, .store 6 (.t 4) (.t 27), [], (some [2])⟩])
 .ret))))⟩
theorem a35_ok : afn Try.prog 35 = some a35.er := by kernel_rfl
theorem F35_ok {x0 : SchedQueue} {x1 : ByteArray} {r : (List WorkItem) × (List WorkItem) × (List WorkItem) × (List WorkItem) × ((List WorkItem))} (h : F35 x0 x1 = some r) : CallD Try.prog 35 [.agg [.d (.sl (x0.Waiting.map eWorkItem)), .d (.sl (x0.Active.map eWorkItem)), .d (.sl (x0.Stuck.map eWorkItem)), .d (.sl (x0.Backoff.map eWorkItem)), .d (.sl (x0.Retries.map eWorkItem)), .d (.v (.int .i64 x0.Cycle))], .c (.d (.v (.string x1)))] [] (tupV [.agg [.own 0 0 0 (r.1.length) none, .own 1 0 0 (r.2.1.length) none, .own 2 0 0 (r.2.2.1.length) none, .own 3 0 0 (r.2.2.2.1.length) none, .d (.sl (r.2.2.2.2.map eWorkItem)), .d (.v (.int .i64 x0.Cycle))]]) [some (.arr 0 2 (r.1.map eWorkItem)), some (.arr 0 2 (r.2.1.map eWorkItem)), some (.arr 0 2 (r.2.2.1.map eWorkItem)), some (.arr 0 2 (r.2.2.2.1.map eWorkItem))] := by
  refine callS a35_ok (by simp [a35]) ?_
  rw [F35] at h
  simp only [a35, VW.down, Nat.reduceEqDiff, reduceCtorEq, Nat.reduceAdd, Nat.reduceLeDiff, Nat.reduceLT, Nat.reduceBEq, Nat.reduceSub, EE.down]
  obtain ⟨o1, ho, h⟩ := Option.bind_eq_some_iff.1 h
  refine cutS (fun s => s = ⟨[(1, .one (.c (.d (.v (.string x1))))), (2, .one (.c (.pt 0 0))), (4, .one (.c (.pt 1 0)))], [some (.box [.d (.sl (o1.1.map eWorkItem)), .d (.sl (o1.2.1.map eWorkItem)), .d (.sl (o1.2.2.1.map eWorkItem)), .d (.sl (o1.2.2.2.1.map eWorkItem)), .d (.sl (o1.2.2.2.2.map eWorkItem)), .d (.v (.int .i64 x0.Cycle))]), some (.box [.d (.v (.slice none 0 0)), .d (.v (.slice none 0 0)), .d (.v (.slice none 0 0)), .d (.v (.slice none 0 0)), .d (.v (.slice none 0 0)), .d (.v (.int .i64 0))])]⟩) ?_ ?_
  · have h := ho
    clear ho
    simp only [VW.down, Nat.reduceEqDiff, reduceCtorEq, Nat.reduceAdd, Nat.reduceLeDiff, Nat.reduceLT, Nat.reduceBEq, Nat.reduceSub, EE.down]
    obtain ⟨t2, ht2, h⟩ := Option.bind_eq_some_iff.1 h
    refine callX_n [] (F34_ok ht2) ?_ ?_ ?_ ?_ ?_ ?_
    · first | rfl | simp [nrmA, nrmC, nrm, A1.ren, C.ren, rn, List.length_set]
    · simp [liveAll, A1.live, C.live]
    · rfl
    · decide
    · exact trivial
    simp only [VW.down, Nat.reduceEqDiff, reduceCtorEq, Nat.reduceAdd, Nat.reduceLeDiff, Nat.reduceLT, Nat.reduceBEq, Nat.reduceSub, EE.down]
    obtain rfl := Option.some.inj h
    exact eM [some 0, some 1] rfl
  · rintro _ rfl
    clear ho
    simp only [VW.down, Nat.reduceEqDiff, reduceCtorEq, Nat.reduceAdd, Nat.reduceLeDiff, Nat.reduceLT, Nat.reduceBEq, Nat.reduceSub, EE.down]
    obtain ⟨t3, ht3, h⟩ := Option.bind_eq_some_iff.1 h
    refine callX_n [] (F41_ok ht3) ?_ ?_ ?_ ?_ ?_ ?_
    · first | rfl | simp [nrmA, nrmC, nrm, A1.ren, C.ren, rn, List.length_set]
    · simp [liveAll, A1.live, C.live]
    · rfl
    · decide
    · exact trivial
    simp only [VW.down, Nat.reduceEqDiff, reduceCtorEq, Nat.reduceAdd, Nat.reduceLeDiff, Nat.reduceLT, Nat.reduceBEq, Nat.reduceSub, EE.down]
    refine kD_new (by simp [wrs, allW, hset]) ?_
    simp only [VW.down, Nat.reduceEqDiff, reduceCtorEq, Nat.reduceAdd, Nat.reduceLeDiff, Nat.reduceLT, Nat.reduceBEq, Nat.reduceSub, EE.down]
    obtain ⟨t4, ht4, h⟩ := Option.bind_eq_some_iff.1 h
    refine callX_n [] (F41_ok ht4) ?_ ?_ ?_ ?_ ?_ ?_
    · first | rfl | simp [nrmA, nrmC, nrm, A1.ren, C.ren, rn, List.length_set]
    · simp [liveAll, A1.live, C.live]
    · rfl
    · decide
    · exact trivial
    simp only [VW.down, Nat.reduceEqDiff, reduceCtorEq, Nat.reduceAdd, Nat.reduceLeDiff, Nat.reduceLT, Nat.reduceBEq, Nat.reduceSub, EE.down]
    refine kD_new (by simp [wrs, allW, hset]) ?_
    simp only [VW.down, Nat.reduceEqDiff, reduceCtorEq, Nat.reduceAdd, Nat.reduceLeDiff, Nat.reduceLT, Nat.reduceBEq, Nat.reduceSub, EE.down]
    obtain ⟨t5, ht5, h⟩ := Option.bind_eq_some_iff.1 h
    refine callX_n [] (F41_ok ht5) ?_ ?_ ?_ ?_ ?_ ?_
    · first | rfl | simp [nrmA, nrmC, nrm, A1.ren, C.ren, rn, List.length_set]
    · simp [liveAll, A1.live, C.live]
    · rfl
    · decide
    · exact trivial
    simp only [VW.down, Nat.reduceEqDiff, reduceCtorEq, Nat.reduceAdd, Nat.reduceLeDiff, Nat.reduceLT, Nat.reduceBEq, Nat.reduceSub, EE.down]
    refine kD_new (by simp [wrs, allW, hset]) ?_
    simp only [VW.down, Nat.reduceEqDiff, reduceCtorEq, Nat.reduceAdd, Nat.reduceLeDiff, Nat.reduceLT, Nat.reduceBEq, Nat.reduceSub, EE.down]
    obtain ⟨t6, ht6, h⟩ := Option.bind_eq_some_iff.1 h
    refine callX_n [] (F41_ok ht6) ?_ ?_ ?_ ?_ ?_ ?_
    · first | rfl | simp [nrmA, nrmC, nrm, A1.ren, C.ren, rn, List.length_set]
    · simp [liveAll, A1.live, C.live]
    · rfl
    · decide
    · exact trivial
    simp only [VW.down, Nat.reduceEqDiff, reduceCtorEq, Nat.reduceAdd, Nat.reduceLeDiff, Nat.reduceLT, Nat.reduceBEq, Nat.reduceSub, EE.down]
    refine kD_new (by simp [wrs, allW, hset]) ?_
    simp only [VW.down, Nat.reduceEqDiff, reduceCtorEq, Nat.reduceAdd, Nat.reduceLeDiff, Nat.reduceLT, Nat.reduceBEq, Nat.reduceSub, EE.down]
    obtain rfl := Option.some.inj h
    exact eF [some 5, some 2, some 3, some 4]

/- cmp.isNaN[int] -/
def F54 (x0 : Int) : Option (Unit) := some (())
def a54 : AFn := ⟨6, [(.tmp 2)],
 (.seq (.reg [⟨(some 2), none, .mv (kB false), [], none⟩])
 (.seq (.reg [⟨(some 3), none, .mv (.t 0), [], none⟩,
   ⟨(some 4), none, .mv (.t 0), [], none⟩,
   ⟨(some 5), none, .bin .neq (.t 3) (.t 4), [], none⟩,
   ⟨(some 2), none, .mv (.t 5), [], none⟩])
 .ret))⟩
theorem a54_ok : afn Try.prog 54 = some a54.er := by kernel_rfl
theorem F54_ok {x0 : Int} {r : Unit} (h : F54 x0 = some r) : CallD Try.prog 54 [.c (.d (.v (.int .i64 x0)))] [] (tupV [.c (.d (.v (.bool (decide (¬ (True))))))]) [] := by
  refine callS a54_ok (by simp [a54]) ?_
  rw [F54] at h
  simp only [a54, VW.down, Nat.reduceEqDiff, reduceCtorEq, Nat.reduceAdd, Nat.reduceLeDiff, Nat.reduceLT, Nat.reduceBEq, Nat.reduceSub, EE.down]
  obtain rfl := Option.some.inj h
  exact eF []

/- cmp.Compare[int] -/
def F38 (x0 : Int) (x1 : Int) : Option (Int) := (F54 x0).bind fun t1 => (F54 x1).bind fun t2 => (if ¬ (True) then (if ¬ (True) then some 0 else some ((-1))) else (if ¬ (True) then some 1 else (if x0 < x1 then some ((-1)) else (if x1 < x0 then some 1 else some 0))))
def a38 : AFn := ⟨20, [(.tmp 4)],
 (.seq (.reg [⟨(some 4), none, .mv (kI 0), [], none⟩])
 (.seq (.reg [⟨(some 7), none, .mv (.t 0), [], none⟩,
   ⟨(some 8), none, .call 54 [(.t 7)], [], none⟩,
   ⟨(some 5), none, .mv (.t 8), [], none⟩])
 (.seq (.reg [⟨(some 9), none, .mv (.t 1), [], none⟩,
   ⟨(some 10), none, .call 54 [(.t 9)], [], none⟩,
   ⟨(some 6), none, .mv (.t 10), [], none⟩])
 (.seq (.seq (.reg [⟨(some 11), none, .mv (.t 5), [], none⟩])
 (.cond (.t 11)
 (.seq (.seq (.reg [⟨(some 12), none, .mv (.t 6), [], none⟩])
 (.cond (.t 12)
 (.seq (.reg [⟨(some 4), none, .mv (kI 0), [], none⟩])
 .ret)
 .skip))
 (.seq (.reg [⟨(some 4), none, .mv (kI (-1)), [], none⟩])
 .ret))
 .skip))
 (.seq (.seq (.reg [⟨(some 13), none, .mv (.t 6), [], none⟩])
 (.cond (.t 13)
 (.seq (.reg [⟨(some 4), none, .mv (kI 1), [], none⟩])
 .ret)
 .skip))
 (.seq (.seq (.reg [⟨(some 14), none, .mv (.t 0), [], none⟩,
   ⟨(some 15), none, .mv (.t 1), [], none⟩,
   ⟨(some 16), none, .bin .lss (.t 14) (.t 15), [], none⟩])
 (.cond (.t 16)
 (.seq (.reg [⟨(some 4), none, .mv (kI (-1)), [], none⟩])
 .ret)
 .skip))
 (.seq (.seq (.reg [⟨(some 17), none, .mv (.t 0), [], none⟩,
   ⟨(some 18), none, .mv (.t 1), [], none⟩,
   ⟨(some 19), none, .bin .gtr (.t 17) (.t 18), [], none⟩])
 (.cond (.t 19)
 (.seq (.reg [⟨(some 4), none, .mv (kI 1), [], none⟩])
 .ret)
 .skip))
 (.seq (.reg [⟨(some 4), none, .mv (kI 0), [], none⟩])
 .ret))))))))⟩
theorem a38_ok : afn Try.prog 38 = some a38.er := by kernel_rfl
theorem F38_ok {x0 : Int} {x1 : Int} {r : Int} (h : F38 x0 x1 = some r) : CallD Try.prog 38 [.c (.d (.v (.int .i64 x0))), .c (.d (.v (.int .i64 x1)))] [] (tupV [.c (.d (.v (.int .i64 r)))]) [] := by
  refine callS a38_ok (by simp [a38]) ?_
  rw [F38] at h
  simp only [a38, VW.down, Nat.reduceEqDiff, reduceCtorEq, Nat.reduceAdd, Nat.reduceLeDiff, Nat.reduceLT, Nat.reduceBEq, Nat.reduceSub, EE.down]
  obtain ⟨t1, ht1, h⟩ := Option.bind_eq_some_iff.1 h
  refine callX_n [] (F54_ok ht1) ?_ ?_ ?_ ?_ ?_ ?_
  · first | rfl | simp [nrmA, nrmC, nrm, A1.ren, C.ren, rn, List.length_set]
  · simp [liveAll, A1.live, C.live]
  · rfl
  · decide
  · exact trivial
  simp only [VW.down, Nat.reduceEqDiff, reduceCtorEq, Nat.reduceAdd, Nat.reduceLeDiff, Nat.reduceLT, Nat.reduceBEq, Nat.reduceSub, EE.down]
  obtain ⟨t2, ht2, h⟩ := Option.bind_eq_some_iff.1 h
  refine callX_n [] (F54_ok ht2) ?_ ?_ ?_ ?_ ?_ ?_
  · first | rfl | simp [nrmA, nrmC, nrm, A1.ren, C.ren, rn, List.length_set]
  · simp [liveAll, A1.live, C.live]
  · rfl
  · decide
  · exact trivial
  simp only [VW.down, Nat.reduceEqDiff, reduceCtorEq, Nat.reduceAdd, Nat.reduceLeDiff, Nat.reduceLT, Nat.reduceBEq, Nat.reduceSub, EE.down]
  refine condS (fun c3 => ?_) (fun c3 => ?_)
  · have h := (if_pos c3).symm.trans h
    simp only [VW.down, Nat.reduceEqDiff, reduceCtorEq, Nat.reduceAdd, Nat.reduceLeDiff, Nat.reduceLT, Nat.reduceBEq, Nat.reduceSub, EE.down]
    refine condS (fun c4 => ?_) (fun c4 => ?_)
    · have h := (if_pos c4).symm.trans h
      simp only [VW.down, Nat.reduceEqDiff, reduceCtorEq, Nat.reduceAdd, Nat.reduceLeDiff, Nat.reduceLT, Nat.reduceBEq, Nat.reduceSub, EE.down]
      obtain rfl := Option.some.inj h
      exact eF []
    · have h := (if_neg c4).symm.trans h
      simp only [VW.down, Nat.reduceEqDiff, reduceCtorEq, Nat.reduceAdd, Nat.reduceLeDiff, Nat.reduceLT, Nat.reduceBEq, Nat.reduceSub, EE.down]
      obtain rfl := Option.some.inj h
      exact eF []
  · have h := (if_neg c3).symm.trans h
    simp only [VW.down, Nat.reduceEqDiff, reduceCtorEq, Nat.reduceAdd, Nat.reduceLeDiff, Nat.reduceLT, Nat.reduceBEq, Nat.reduceSub, EE.down]
    refine condS (fun c5 => ?_) (fun c5 => ?_)
    · have h := (if_pos c5).symm.trans h
      simp only [VW.down, Nat.reduceEqDiff, reduceCtorEq, Nat.reduceAdd, Nat.reduceLeDiff, Nat.reduceLT, Nat.reduceBEq, Nat.reduceSub, EE.down]
      obtain rfl := Option.some.inj h
      exact eF []
    · have h := (if_neg c5).symm.trans h
      simp only [VW.down, Nat.reduceEqDiff, reduceCtorEq, Nat.reduceAdd, Nat.reduceLeDiff, Nat.reduceLT, Nat.reduceBEq, Nat.reduceSub, EE.down]
      refine condS (fun c6 => ?_) (fun c6 => ?_)
      · have h := (if_pos c6).symm.trans h
        simp only [VW.down, Nat.reduceEqDiff, reduceCtorEq, Nat.reduceAdd, Nat.reduceLeDiff, Nat.reduceLT, Nat.reduceBEq, Nat.reduceSub, EE.down]
        obtain rfl := Option.some.inj h
        exact eF []
      · have h := (if_neg c6).symm.trans h
        simp only [VW.down, Nat.reduceEqDiff, reduceCtorEq, Nat.reduceAdd, Nat.reduceLeDiff, Nat.reduceLT, Nat.reduceBEq, Nat.reduceSub, EE.down]
        refine condS (fun c7 => ?_) (fun c7 => ?_)
        · have h := (if_pos c7).symm.trans h
          simp only [VW.down, Nat.reduceEqDiff, reduceCtorEq, Nat.reduceAdd, Nat.reduceLeDiff, Nat.reduceLT, Nat.reduceBEq, Nat.reduceSub, EE.down]
          obtain rfl := Option.some.inj h
          exact eF []
        · have h := (if_neg c7).symm.trans h
          simp only [VW.down, Nat.reduceEqDiff, reduceCtorEq, Nat.reduceAdd, Nat.reduceLeDiff, Nat.reduceLT, Nat.reduceBEq, Nat.reduceSub, EE.down]
          obtain rfl := Option.some.inj h
          exact eF []

/- orchestrator/schedqueue.Add$1 -/
def F37 (x0 : WorkItem) (x1 : WorkItem) : Option (Int) := (F38 x1.At x0.At).bind fun t1 => some t1
def a37 : AFn := ⟨10, [(.tmp 4)],
 (.seq (.reg [⟨(some 2), none, .box (.t 0), [], none⟩,
   ⟨(some 3), none, .box (.t 1), [], none⟩,
   ⟨(some 4), none, .mv (kI 0), [], none⟩])
 (.seq (.reg [⟨(some 5), none, .fieldA 1 (.t 3), [], none⟩,
   ⟨(some 6), none, .load none (.t 5), [], none⟩,
   ⟨(some 7), none, .fieldA 1 (.t 2), [], none⟩,
   ⟨(some 8), none, .load none (.t 7), [], none⟩,
   ⟨(some 9), none, .call 38 [(.t 6), (.t 8)], [], none⟩,
   ⟨(some 4), none, .mv (.t 9), [], none⟩])
 .ret))⟩
theorem a37_ok : afn Try.prog 37 = some a37.er := by kernel_rfl
theorem F37_ok {x0 : WorkItem} {x1 : WorkItem} {r : Int} (h : F37 x0 x1 = some r) : CallD Try.prog 37 [.agg [.d (.v (.string x0.Key)), .d (.v (.int .i64 x0.At))], .agg [.d (.v (.string x1.Key)), .d (.v (.int .i64 x1.At))]] [] (tupV [.c (.d (.v (.int .i64 r)))]) [] := by
  refine callS a37_ok (by simp [a37]) ?_
  rw [F37] at h
  simp only [a37, VW.down, Nat.reduceEqDiff, reduceCtorEq, Nat.reduceAdd, Nat.reduceLeDiff, Nat.reduceLT, Nat.reduceBEq, Nat.reduceSub, EE.down]
  obtain ⟨t1, ht1, h⟩ := Option.bind_eq_some_iff.1 h
  refine callX_n [] (F38_ok ht1) ?_ ?_ ?_ ?_ ?_ ?_
  · first | rfl | simp [nrmA, nrmC, nrm, A1.ren, C.ren, rn, List.length_set]
  · simp [liveAll, A1.live, C.live]
  · rfl
  · decide
  · exact trivial
  simp only [VW.down, Nat.reduceEqDiff, reduceCtorEq, Nat.reduceAdd, Nat.reduceLeDiff, Nat.reduceLT, Nat.reduceBEq, Nat.reduceSub, EE.down]
  obtain rfl := Option.some.inj h
  exact eF []

/- slices.overlaps[orchestrator/api.WorkItem] -/
noncomputable def fn63 : Func := (Try.prog.funcs[63]?).getD default
theorem fn63_ok : Try.prog.funcs[63]? = some fn63 := by kernel_rfl
theorem ov63 (e0 e1 o0 o1 l0 l1 : Nat) (c0 c1 : Option Nat) (r0 r1 : List (List D)) :
    CallD Try.prog 63 [.c (.own 0 e0 o0 l0 c0), .c (.own 1 e1 o1 l1 c1)] [some (.arr e0 2 r0), some (.arr e1 2 r1)] (.one (aB false)) [some (.arr e0 2 r0), some (.arr e1 2 r1)] :=
  ovl_callD (tS := 25) (tT := 4) (e := 38) (ps := #[25, 25]) (rs := #[4]) fn63_ok (by kernel_rfl) (by kernel_rfl) (by kernel_rfl) (by kernel_rfl) rfl rfl (by kernel_rfl) (by kernel_rfl) e0 e1 o0 o1 l0 l1 c0 c1 r0 r1

/- slices.Insert[[]orchestrator/api.WorkItem,orchestrator/api.WorkItem] -/
theorem a53_ok : afn Try.prog 53 = some (insertA 2 24 [.v (.string ⟨#[]⟩), .v (.int .i64 0)] 63 64) := by kernel_rfl
theorem F53_ok {x0 r : List WorkItem} {i : Int} {x : WorkItem} {e0 e1 : Nat} (h : insI x0 i x = some r) : CallD Try.prog 53 [.c (.own 0 e0 0 x0.length none), aI i, .c (.own 1 e1 0 [x].length none)] [some (.arr e0 2 (x0.map eWorkItem)), some (.arr e1 2 ([x].map eWorkItem))] (tupV [.c (.own 0 (e0 + 1) 0 r.length none)]) [some (.arr (e0 + 1) 2 (r.map eWorkItem)), some (.arr e1 2 ([x].map eWorkItem))] := L_insert a53_ok ov63 (fun _ => rfl) h

/- orchestrator/schedqueue.insert -/
def F36_l1 (x0 : (List WorkItem)) (x1 : WorkItem) : Nat → Int → Option (Int)
  | 0, _ => none
  | k + 1, o1_0 => (((if o1_0 < (x0.length : Int) then (rdI x0 o1_0).bind fun y4 => (F37 y4 x1).bind fun t5 => some (decide (t5 ≤ 0)) else some false)).bind fun o2 => (if o2 = true then F36_l1 x0 x1 k ((IntKind.i64.wrap (o1_0 + 1))) else some o1_0))
def F36 (x0 : (List WorkItem)) (x1 : WorkItem) : Option ((List WorkItem)) := ((F36_l1 x0 x1 1099511627776 0).bind fun o1 => (insI x0 o1 x1).bind fun t7 => some t7)
def a36 : AFn := ⟨29, [(.tmp 6)],
 (.seq (.reg [⟨(some 4), none, .box (.t 1), [], none⟩,
   ⟨(some 6), none, .mv kN, [], none⟩])
 (.seq (.reg [⟨(some 7), none, .mv (kI 0), [], none⟩])
 (.seq (.sem (.block 0 (.loop (.seq (.seq (.sem (.regd [⟨(some 8), none, .mv (.t 7), [], none⟩,
   ⟨(some 9), none, .mv (.t 0), [], none⟩,
   ⟨(some 10), none, .len (.t 9), [1], none⟩,
   ⟨(some 11), none, .bin .lss (.t 8) (.t 10), [0, 1, 2], none⟩,
   ⟨(some 12), none, .mv (.t 11), [0, 1, 2, 3], none⟩,
   ⟨(some 13), (some (12, true)), .mv (.t 2), [0, 1, 2, 3, 4], none⟩,
   ⟨(some 14), (some (12, true)), .mv (.t 0), [0, 1, 2, 3, 4], none⟩,
   ⟨(some 15), (some (12, true)), .mv (.t 7), [0, 1, 2, 3, 4], none⟩,
   ⟨(some 16), (some (12, true)), .indexA 2 (.t 14) (.t 15), [0, 1, 2, 3, 4, 6, 7], none⟩,
   ⟨(some 17), (some (12, true)), .load (some 2) (.t 16), [0, 1, 2, 3, 4, 6, 7, 8], none⟩,
   ⟨(some 18), (some (12, true)), .load (some 2) (.t 4), [0, 1, 2, 3, 4], none⟩,
   ⟨(some 19), (some (12, true)), .callv (.t 13) [(.t 17), (.t 18)], [0, 1, 2, 3, 4, 5, 6, 7, 8, 9, 10], (some [])⟩,
   ⟨(some 20), (some (12, true)), .bin .leq (.t 19) (kI 0), [0, 1, 2, 3, 4, 5, 6, 7, 8, 9, 10, 11], none⟩,
   ⟨(some 21), none, .pick (.t 12) (.t 20) (kB false), [0, 1, 2, 3, 4, 5, 6, 7, 8, 9, 10, 11, 12], (some [])⟩]))
 (.cond (.t 21)
 .skip
 (.exit 0)))
 (.block 1 (.reg [⟨(some 22), none, .mv (.t 7), [], none⟩,
   ⟨(some 23), none, .bin .add (.t 22) (kI 1), [], none⟩,
   ⟨(some 7), none, .mv (.t 23), [], none⟩]))))))
 (.seq (.reg [⟨(some 24), none, .mv (.t 0), [], none⟩,
   ⟨(some 25), none, .mv (.t 7), [], none⟩,
   ⟨(some 26), none, .load (some 2) (.t 4), [], none⟩,
   ⟨(some 27), none, .bslice 2 [(.t 26)], [], none⟩,
   ⟨(some 28), none, .call 53 [(.t 24), (.t 25), (.t 27)], [], none⟩,
   ⟨(some 6), none, .mv (.t 28), [], none⟩])
 .ret))))⟩
theorem a36_ok : afn Try.prog 36 = some a36.er := by kernel_rfl
theorem F36_ok {x0 : (List WorkItem)} {x1 : WorkItem} {r : (List WorkItem)} {e0 : Nat} (h : F36 x0 x1 = some r) : CallD Try.prog 36 [.c (.own 0 e0 0 (x0.length) none), .agg [.d (.v (.string x1.Key)), .d (.v (.int .i64 x1.At))], .c (.fn 37 [])] [some (.arr e0 2 (x0.map eWorkItem))] (tupV [.c (.own 0 (e0 + 1) 0 (r.length) none)]) [some (.arr (e0 + 1) 2 (r.map eWorkItem))] := by
  refine callS a36_ok (by simp [a36]) ?_
  rw [F36] at h
  simp only [a36, VW.down, Nat.reduceEqDiff, reduceCtorEq, Nat.reduceAdd, Nat.reduceLeDiff, Nat.reduceLT, Nat.reduceBEq, Nat.reduceSub, EE.down]
  obtain ⟨o1, ho, h⟩ := Option.bind_eq_some_iff.1 h
  refine cutS (fun s => s = ⟨[(0, .one (.c (.own 0 e0 0 (x0.length) none))), (4, .one (.c (.pt 1 0))), (7, .one (.c (.d (.v (.int .i64 o1)))))], [some (.arr e0 2 (x0.map eWorkItem)), some (.box [.d (.v (.string x1.Key)), .d (.v (.int .i64 x1.At))])]⟩) ?_ ?_
  · have h := ho
    clear ho
    simp only [VW.down, Nat.reduceEqDiff, reduceCtorEq, Nat.reduceAdd, Nat.reduceLeDiff, Nat.reduceLT, Nat.reduceBEq, Nat.reduceSub, EE.down]
    refine bL (fun j s => ∃ (o1_0 : Int), s = ⟨[(0, .one (.c (.own 0 e0 0 (x0.length) none))), (2, .one (.c (.fn 37 []))), (4, .one (.c (.pt 1 0))), (7, .one (.c (.d (.v (.int .i64 o1_0)))))], [some (.arr e0 2 (x0.map eWorkItem)), some (.box [.d (.v (.string x1.Key)), .d (.v (.int .i64 x1.At))])]⟩ ∧ F36_l1 x0 x1 j o1_0 = some o1) 1099511627776 [some 0, some 1] ⟨0, rfl, h⟩ ?_
    rintro j _ ⟨o1_0, rfl, h⟩
    cases j with
    | zero => cases (show (none : Option _) = some _ from h)
    | succ j =>
      rw [F36_l1] at h
      simp only [VW.down, Nat.reduceEqDiff, reduceCtorEq, Nat.reduceAdd, Nat.reduceLeDiff, Nat.reduceLT, Nat.reduceBEq, Nat.reduceSub, EE.down]
      obtain ⟨o2, ho, h⟩ := Option.bind_eq_some_iff.1 h
      refine cutS (fun s => s = ⟨[(0, .one (.c (.own 0 e0 0 (x0.length) none))), (2, .one (.c (.fn 37 []))), (4, .one (.c (.pt 1 0))), (7, .one (.c (.d (.v (.int .i64 o1_0))))), (21, .one (.c (.d (.v (.bool o2)))))], [some (.arr e0 2 (x0.map eWorkItem)), some (.box [.d (.v (.string x1.Key)), .d (.v (.int .i64 x1.At))])]⟩) ?_ ?_
      · have h := ho
        clear ho
        simp only [VW.down, Nat.reduceEqDiff, reduceCtorEq, Nat.reduceAdd, Nat.reduceLeDiff, Nat.reduceLT, Nat.reduceBEq, Nat.reduceSub, EE.down]
        refine guardD (fun g3 => ?_) (fun g3 => ?_)
        · have h := (if_pos g3).symm.trans h
          simp only [VW.down, Nat.reduceEqDiff, reduceCtorEq, Nat.reduceAdd, Nat.reduceLeDiff, Nat.reduceLT, Nat.reduceBEq, Nat.reduceSub, EE.down]
          obtain ⟨y4, hy4, h⟩ := Option.bind_eq_some_iff.1 h
          refine t_idxO (enc := eWorkItem) (xs := x0) rfl rfl rfl (by first | rfl | simp only [List.length_set] | exact (clrL_len (slI_len (by assumption))).symm) hy4 ?_
          simp only [VW.down, Nat.reduceEqDiff, reduceCtorEq, Nat.reduceAdd, Nat.reduceLeDiff, Nat.reduceLT, Nat.reduceBEq, Nat.reduceSub, EE.down]
          refine LdRow.rd (rdI_some hy4).2.1 ?_
          simp only [VW.down, Nat.reduceEqDiff, reduceCtorEq, Nat.reduceAdd, Nat.reduceLeDiff, Nat.reduceLT, Nat.reduceBEq, Nat.reduceSub, EE.down]
          obtain ⟨t5, ht5, h⟩ := Option.bind_eq_some_iff.1 h
          refine callX_n [] (F37_ok ht5) ?_ ?_ ?_ ?_ ?_ ?_
          · first | rfl | simp [nrmA, nrmC, nrm, A1.ren, C.ren, rn, List.length_set]
          · simp [liveAll, A1.live, C.live]
          · rfl
          · decide
          · exact trivial
          simp only [VW.down, Nat.reduceEqDiff, reduceCtorEq, Nat.reduceAdd, Nat.reduceLeDiff, Nat.reduceLT, Nat.reduceBEq, Nat.reduceSub, EE.down]
          obtain rfl := Option.some.inj h
          exact eM [some 0, some 1] rfl
        · have h := (if_neg g3).symm.trans h
          simp only [VW.down, Nat.reduceEqDiff, reduceCtorEq, Nat.reduceAdd, Nat.reduceLeDiff, Nat.reduceLT, Nat.reduceBEq, Nat.reduceSub, EE.down]
          obtain rfl := Option.some.inj h
          exact eM [some 0, some 1] rfl
      · rintro _ rfl
        clear ho
        simp only [VW.down, Nat.reduceEqDiff, reduceCtorEq, Nat.reduceAdd, Nat.reduceLeDiff, Nat.reduceLT, Nat.reduceBEq, Nat.reduceSub, EE.down]
        refine condB (fun c6 => ?_) (fun c6 => ?_)
        · have h := (if_pos c6).symm.trans h
          simp only [VW.down, Nat.reduceEqDiff, reduceCtorEq, Nat.reduceAdd, Nat.reduceLeDiff, Nat.reduceLT, Nat.reduceBEq, Nat.reduceSub, EE.down]
          exact eL' j [some 0, some 1] ⟨(IntKind.i64.wrap (o1_0 + 1)), rfl, h⟩ (Nat.lt_succ_self _)
        · have h := (if_neg c6).symm.trans h
          simp only [VW.down, Nat.reduceEqDiff, reduceCtorEq, Nat.reduceAdd, Nat.reduceLeDiff, Nat.reduceLT, Nat.reduceBEq, Nat.reduceSub, EE.down]
          obtain rfl := Option.some.inj h
          exact eM [some 0, some 1] rfl
  · rintro _ rfl
    clear ho
    simp only [VW.down, Nat.reduceEqDiff, reduceCtorEq, Nat.reduceAdd, Nat.reduceLeDiff, Nat.reduceLT, Nat.reduceBEq, Nat.reduceSub, EE.down]
    refine t_bslice (enc := eWorkItem) (ys := [x1]) rfl rfl (by simp [A1.cells]) rfl ?_
    simp only [VW.down, Nat.reduceEqDiff, reduceCtorEq, Nat.reduceAdd, Nat.reduceLeDiff, Nat.reduceLT, Nat.reduceBEq, Nat.reduceSub, EE.down]
    obtain ⟨t7, ht7, h⟩ := Option.bind_eq_some_iff.1 h
    refine callX_n [0, 2] (F53_ok (e0 := e0) (e1 := 0) ht7) ?_ ?_ ?_ ?_ ?_ ?_
    · first | rfl | simp [nrmA, nrmC, nrm, A1.ren, C.ren, rn, List.length_set]
    · simp [liveAll, A1.live, C.live, hp]
    · rfl
    · decide
    · exact ⟨⟨rfl, trivial⟩, ⟨⟨rfl, trivial⟩, trivial⟩⟩
    simp only [VW.down, Nat.reduceEqDiff, reduceCtorEq, Nat.reduceAdd, Nat.reduceLeDiff, Nat.reduceLT, Nat.reduceBEq, Nat.reduceSub, EE.down]
    obtain rfl := Option.some.inj h
    exact eF [some 0]

/- orchestrator/schedqueue.Add -/
def F15 (x0 : SchedQueue) (x1 : ByteArray) (x2 : Int) : Option ((List WorkItem) × (List WorkItem) × (List WorkItem) × (List WorkItem) × (List WorkItem)) := (F33 x0.Active ((⟨x1, x2⟩ : WorkItem))).bind fun t1 => (if t1 = true then (F34 x0).bind fun t3 => some ((t3.1, t3.2.1, t3.2.2.1, t3.2.2.2.1, t3.2.2.2.2)) else (F35 x0 x1).bind fun t4 => (F36 t4.2.1 ((⟨x1, x2⟩ : WorkItem))).bind fun t5 => some ((t4.1, t5, t4.2.2.1, t4.2.2.2.1, t4.2.2.2.2)))
def a15 : AFn := ⟨26, [(.cell 6 (some 6))],
 (.seq (.reg [⟨(some 3), none, .box (.t 0), [], none⟩,
   ⟨(some 6), none, .zbox [.d (.v (.slice none 0 0)), .d (.v (.slice none 0 0)), .d (.v (.slice none 0 0)), .d (.v (.slice none 0 0)), .d (.v (.slice none 0 0)), .d (.v (.int .i64 0))], [], none⟩])
 (.seq (.reg [⟨(some 8), none, .mv (.t 1), [], none⟩,
   ⟨(some 9), none, .mv (.t 2), [], none⟩,
   ⟨(some 10), none, .build [.d (.v (.string ⟨#[]⟩)), .d (.v (.int .i64 0))] [(0, 1, (.t 8)), (1, 1, (.t 9))], [], none⟩,
   ⟨(some 7), none, .zbox [.d (.v (.string ⟨#[]⟩)), .d (.v (.int .i64 0))], [], none⟩,
   ⟨none, none, .store 2 (.t 7) (.t 10), [], none⟩])
 (.seq (.seq (.reg [⟨(some 11), none, .fieldA 1 (.t 3), [], none⟩,
   ⟨(some 12), none, .load none (.t 11), [], none⟩,
   ⟨(some 13), none, .load (some 2) (.t 7), [], none⟩,
   ⟨(some 14), none, .call 33 [(.t 12), (.t 13)], [], (some [3, 11, 7])⟩])
 (.cond (.t 14)
 (.seq (.reg [⟨(some 15), none, .load (some 6) (.t 3), [], none⟩,
   ⟨(some 16), none, .call 34 [(.t 15)], [], none⟩,
   ⟨none, none, .store 6 (.t 6) (.t 16), [], none⟩])
 .ret)
 .skip))
 (.seq (.reg [⟨(some 17), none, .load (some 6) (.t 3), [], none⟩,
   ⟨(some 18), none, .mv (.t 1), [], none⟩,
   ⟨(some 19), none, .call 35 [(.t 17), (.t 18)], [], none⟩,
   ⟨none, none, .store 6 (.t 3) (.t 19), [], none⟩])
 (.seq (.reg [⟨(some 20), none, .fieldA 1 (.t 3), [], none⟩,
   ⟨(some 21), none, .load none (.t 20), [], none⟩,
   ⟨(some 22), none, .load (some 2) (.t 7), [], none⟩,
   ⟨(some 23), none, .call 36 [(.t 21), (.t 22), (.f 37)], [], none⟩,
   ⟨(some 24), none, .fieldA 1 (.t 3), [], none⟩,
   ⟨none, none, .store 1 (.t 24) (.t 23), [], none⟩])
 (.seq (.reg [⟨(some 25), none, .load (some 6) (.t 3), [], none⟩,
   ⟨none, none, .store 6 (.t 6) (.t 25), [], (some [3])⟩])
 .ret))))))⟩
theorem a15_ok : afn Try.prog 15 = some a15.er := by kernel_rfl
theorem F15_ok {x0 : SchedQueue} {x1 : ByteArray} {x2 : Int} {r : (List WorkItem) × (List WorkItem) × (List WorkItem) × (List WorkItem) × (List WorkItem)} (h : F15 x0 x1 x2 = some r) : CallD Try.prog 15 [.agg [.d (.sl (x0.Waiting.map eWorkItem)), .d (.sl (x0.Active.map eWorkItem)), .d (.sl (x0.Stuck.map eWorkItem)), .d (.sl (x0.Backoff.map eWorkItem)), .d (.sl (x0.Retries.map eWorkItem)), .d (.v (.int .i64 x0.Cycle))], .c (.d (.v (.string x1))), .c (.d (.v (.int .i64 x2)))] [] (tupV [.agg [.own 0 0 0 (r.1.length) none, .own 1 0 0 (r.2.1.length) none, .own 2 0 0 (r.2.2.1.length) none, .own 3 0 0 (r.2.2.2.1.length) none, .d (.sl (r.2.2.2.2.map eWorkItem)), .d (.v (.int .i64 x0.Cycle))]]) [some (.arr 0 2 (r.1.map eWorkItem)), some (.arr 0 2 (r.2.1.map eWorkItem)), some (.arr 0 2 (r.2.2.1.map eWorkItem)), some (.arr 0 2 (r.2.2.2.1.map eWorkItem))] := by
  refine callS a15_ok (by simp [a15]) ?_
  rw [F15] at h
  simp only [a15, VW.down, Nat.reduceEqDiff, reduceCtorEq, Nat.reduceAdd, Nat.reduceLeDiff, Nat.reduceLT, Nat.reduceBEq, Nat.reduceSub, EE.down]
  obtain ⟨t1, ht1, h⟩ := Option.bind_eq_some_iff.1 h
  refine callX_n [] (F33_ok ht1) ?_ ?_ ?_ ?_ ?_ ?_
  · first | rfl | simp [nrmA, nrmC, nrm, A1.ren, C.ren, rn, List.length_set]
  · simp [liveAll, A1.live, C.live]
  · rfl
  · decide
  · exact trivial
  simp only [VW.down, Nat.reduceEqDiff, reduceCtorEq, Nat.reduceAdd, Nat.reduceLeDiff, Nat.reduceLT, Nat.reduceBEq, Nat.reduceSub, EE.down]
  refine condB (fun c2 => ?_) (fun c2 => ?_)
  · have h := (if_pos c2).symm.trans h
    simp only [VW.down, Nat.reduceEqDiff, reduceCtorEq, Nat.reduceAdd, Nat.reduceLeDiff, Nat.reduceLT, Nat.reduceBEq, Nat.reduceSub, EE.down]
    obtain ⟨t3, ht3, h⟩ := Option.bind_eq_some_iff.1 h
    refine callX_n [] (F34_ok ht3) ?_ ?_ ?_ ?_ ?_ ?_
    · first | rfl | simp [nrmA, nrmC, nrm, A1.ren, C.ren, rn, List.length_set]
    · simp [liveAll, A1.live, C.live]
    · rfl
    · decide
    · exact trivial
    simp only [VW.down, Nat.reduceEqDiff, reduceCtorEq, Nat.reduceAdd, Nat.reduceLeDiff, Nat.reduceLT, Nat.reduceBEq, Nat.reduceSub, EE.down]
    obtain rfl := Option.some.inj h
    exact eF [some 3, some 4, some 5, some 6]
  · have h := (if_neg c2).symm.trans h
    simp only [VW.down, Nat.reduceEqDiff, reduceCtorEq, Nat.reduceAdd, Nat.reduceLeDiff, Nat.reduceLT, Nat.reduceBEq, Nat.reduceSub, EE.down]
    obtain ⟨t4, ht4, h⟩ := Option.bind_eq_some_iff.1 h
    refine callX_n [] (F35_ok ht4) ?_ ?_ ?_ ?_ ?_ ?_
    · first | rfl | simp [nrmA, nrmC, nrm, A1.ren, C.ren, rn, List.length_set]
    · simp [liveAll, A1.live, C.live]
    · rfl
    · decide
    · exact trivial
    simp only [VW.down, Nat.reduceEqDiff, reduceCtorEq, Nat.reduceAdd, Nat.reduceLeDiff, Nat.reduceLT, Nat.reduceBEq, Nat.reduceSub, EE.down]
    obtain ⟨t5, ht5, h⟩ := Option.bind_eq_some_iff.1 h
    refine callX_n [4] (F36_ok (e0 := 0) ht5) ?_ ?_ ?_ ?_ ?_ ?_
    · first | rfl | simp [nrmA, nrmC, nrm, A1.ren, C.ren, rn, List.length_set]
    · simp [liveAll, A1.live, C.live, hp]
    · rfl
    · decide
    · exact ⟨⟨rfl, trivial⟩, trivial⟩
    simp only [VW.down, Nat.reduceEqDiff, reduceCtorEq, Nat.reduceAdd, Nat.reduceLeDiff, Nat.reduceLT, Nat.reduceBEq, Nat.reduceSub, EE.down]
    obtain rfl := Option.some.inj h
    exact eF [some 3, some 4, some 5, some 6]

/- orchestrator/schedqueue.Pop -/
def F17 (x0 : SchedQueue) : Option ((List WorkItem) × (List WorkItem) × (List WorkItem) × (List WorkItem) × (List WorkItem) × Int × ByteArray × Bool) := (F34 x0).bind fun t1 => (if (t1.2.1.length : Int) = 0 then some ((t1.1, t1.2.1, t1.2.2.1, t1.2.2.2.1, t1.2.2.2.2, x0.Cycle, (⟨#[]⟩ : ByteArray), false)) else (rdI t1.2.1 0).bind fun y3 => (slI t1.2.1 1 ((t1.2.1.length : Int))).bind fun s4 => some ((t1.1, s4, t1.2.2.1, t1.2.2.2.1, t1.2.2.2.2, (IntKind.i64.wrap (x0.Cycle + 1)), y3.Key, true)))
def a17 : AFn := ⟨28, [(.cell 2 (some 6)), (.tmp 3), (.tmp 4)],
 (.seq (.reg [⟨(some 1), none, .box (.t 0), [], none⟩,
   ⟨(some 2), none, .zbox [.d (.v (.slice none 0 0)), .d (.v (.slice none 0 0)), .d (.v (.slice none 0 0)), .d (.v (.slice none 0 0)), .d (.v (.slice none 0 0)), .d (.v (.int .i64 0))], [], none⟩,
   ⟨(some 3), none, .mv (kS ⟨#[]⟩), [], none⟩,
   ⟨(some 4), none, .mv (kB false), [], none⟩])
 (.seq (.reg [⟨(some 6), none, .load (some 6) (.t 1), [], none⟩,
   ⟨(some 7), none, .call 34 [(.t 6)], [], none⟩,
   ⟨none, none, .store 6 (.t 1) (.t 7), [], none⟩])
 (.seq (.seq (.reg [⟨(some 8), none, .fieldA 1 (.t 1), [], none⟩,
   ⟨(some 9), none, .load none (.t 8), [], none⟩,
   ⟨(some 10), none, .len (.t 9), [], none⟩,
   ⟨(some 11), none, .bin .eql (.t 10) (kI 0), [], none⟩])
 (.cond (.t 11)
 (.seq (.reg [⟨(some 12), none, .load (some 6) (.t 1), [], none⟩,
   ⟨none, none, .store 6 (.t 2) (.t 12), [], none⟩,
   ⟨(some 3), none, .mv (kS ⟨#[]⟩), [], none⟩,
   ⟨(some 4), none, .mv (kB false), [], none⟩])
 .ret)
 .skip))
 (.seq (.reg [⟨(some 13), none, .fieldA 1 (.t 1), [], none⟩,
   ⟨(some 14), none, .load none (.t 13), [], none⟩,
   ⟨(some 15), none, .indexA 2 (.t 14) (kI 0), [], none⟩,
   ⟨(some 16), none, .fieldA 0 (.t 15), [], none⟩,
   ⟨(some 17), none, .load none (.t 16), [], none⟩,
   ⟨(some 5), none, .mv (.t 17), [], none⟩])
 (.seq (.reg [⟨(some 18), none, .fieldA 1 (.t 1), [], none⟩,
   ⟨(some 19), none, .load none (.t 18), [], none⟩,
   ⟨(some 20), none, .slice 2 (.t 19) (some (kI 1)) none none, [], none⟩,
   ⟨(some 21), none, .fieldA 1 (.t 1), [], none⟩,
   ⟨none, none, .store 1 (.t 21) (.t 20), [], none⟩])
 (.seq (.reg [⟨(some 22), none, .fieldA 5 (.t 1), [], none⟩,
   ⟨(some 23), none, .load none (.t 22), [], none⟩,
   ⟨(some 24), none, .bin .add (.t 23) (kI 1), [], none⟩,
   ⟨(some 25), none, .fieldA 5 (.t 1), [], none⟩,
   ⟨none, none, .store 1 (.t 25) (.t 24), [], (some [1, 22, 1])⟩])
 (.seq (.reg [⟨(some 26), none, .load (some 6) (.t 1), [], none⟩,
   ⟨(some 27), none, .mv (.t 5), [], none⟩,
   ⟨none, none, .store 6 (.t 2) (.t 26), [], none⟩,
   ⟨(some 3), none, .mv (.t 27), [], none⟩,
   ⟨(some 4), none, .mv (kB true), [], none⟩])
 .ret)))))))⟩
theorem a17_ok : afn Try.prog 17 = some a17.er := by kernel_rfl
theorem F17_ok {x0 : SchedQueue} {r : (List WorkItem) × (List WorkItem) × (List WorkItem) × (List WorkItem) × (List WorkItem) × Int × ByteArray × Bool} (h : F17 x0 = some r) : CallD Try.prog 17 [.agg [.d (.sl (x0.Waiting.map eWorkItem)), .d (.sl (x0.Active.map eWorkItem)), .d (.sl (x0.Stuck.map eWorkItem)), .d (.sl (x0.Backoff.map eWorkItem)), .d (.sl (x0.Retries.map eWorkItem)), .d (.v (.int .i64 x0.Cycle))]] [] (tupV [.agg [.own 0 0 0 (r.1.length) none, .d (.sl (r.2.1.map eWorkItem)), .own 1 0 0 (r.2.2.1.length) none, .own 2 0 0 (r.2.2.2.1.length) none, .own 3 0 0 (r.2.2.2.2.1.length) none, .d (.v (.int .i64 r.2.2.2.2.2.1))], .c (.d (.v (.string r.2.2.2.2.2.2.1))), .c (.d (.v (.bool r.2.2.2.2.2.2.2)))]) [some (.arr 0 2 (r.1.map eWorkItem)), some (.arr 0 2 (r.2.2.1.map eWorkItem)), some (.arr 0 2 (r.2.2.2.1.map eWorkItem)), some (.arr 0 2 (r.2.2.2.2.1.map eWorkItem))] := by
  refine callS a17_ok (by simp [a17]) ?_
  rw [F17] at h
  simp only [a17, VW.down, Nat.reduceEqDiff, reduceCtorEq, Nat.reduceAdd, Nat.reduceLeDiff, Nat.reduceLT, Nat.reduceBEq, Nat.reduceSub, EE.down]
  obtain ⟨t1, ht1, h⟩ := Option.bind_eq_some_iff.1 h
  refine callX_n [] (F34_ok ht1) ?_ ?_ ?_ ?_ ?_ ?_
  · first | rfl | simp [nrmA, nrmC, nrm, A1.ren, C.ren, rn, List.length_set]
  · simp [liveAll, A1.live, C.live]
  · rfl
  · decide
  · exact trivial
  simp only [VW.down, Nat.reduceEqDiff, reduceCtorEq, Nat.reduceAdd, Nat.reduceLeDiff, Nat.reduceLT, Nat.reduceBEq, Nat.reduceSub, EE.down]
  refine condS (fun c2 => ?_) (fun c2 => ?_)
  · have h := (if_pos c2).symm.trans h
    simp only [VW.down, Nat.reduceEqDiff, reduceCtorEq, Nat.reduceAdd, Nat.reduceLeDiff, Nat.reduceLT, Nat.reduceBEq, Nat.reduceSub, EE.down]
    obtain rfl := Option.some.inj h
    exact eF [some 2, some 4, some 5, some 6]
  · have h := (if_neg c2).symm.trans h
    simp only [VW.down, Nat.reduceEqDiff, reduceCtorEq, Nat.reduceAdd, Nat.reduceLeDiff, Nat.reduceLT, Nat.reduceBEq, Nat.reduceSub, EE.down]
    obtain ⟨y3, hy3, h⟩ := Option.bind_eq_some_iff.1 h
    refine t_idxO (enc := eWorkItem) (xs := t1.2.1) rfl rfl rfl (by first | rfl | simp only [List.length_set] | exact (clrL_len (slI_len (by assumption))).symm) hy3 ?_
    simp only [VW.down, Nat.reduceEqDiff, reduceCtorEq, Nat.reduceAdd, Nat.reduceLeDiff, Nat.reduceLT, Nat.reduceBEq, Nat.reduceSub, EE.down]
    refine LdRow.rd (rdI_some hy3).2.1 ?_
    simp only [VW.down, Nat.reduceEqDiff, reduceCtorEq, Nat.reduceAdd, Nat.reduceLeDiff, Nat.reduceLT, Nat.reduceBEq, Nat.reduceSub, EE.down]
    obtain ⟨s4, hs4, h⟩ := Option.bind_eq_some_iff.1 h
    refine t_sliceO (enc := eWorkItem) (xs := t1.2.1) rfl rfl (by first | rfl | simp only [List.length_set] | exact (clrL_len (slI_len (by assumption))).symm) rfl (by first | rfl | simp only [intV, List.length_set]) hs4 ?_
    simp only [VW.down, Nat.reduceEqDiff, reduceCtorEq, Nat.reduceAdd, Nat.reduceLeDiff, Nat.reduceLT, Nat.reduceBEq, Nat.reduceSub, EE.down]
    obtain rfl := Option.some.inj h
    exact eF [some 2, some 4, some 5, some 6] (hB := by simp only [ZZ.down, Nat.reduceEqDiff, reduceCtorEq, Nat.reduceAdd, Nat.reduceLeDiff, Nat.reduceLT, Nat.reduceBNe, EE.down, slI_frz1 hs4, slI_le1 hs4]) (hs := by simp only [ZZ.down, Nat.reduceEqDiff, reduceCtorEq, Nat.reduceAdd, Nat.reduceLeDiff, Nat.reduceLT, Nat.reduceBNe, EE.down, slI_frz1 hs4, slI_le1 hs4])

/- orchestrator/schedqueue.lookup$1 -/
def F56 (x0 : WorkItem) (b0 : ByteArray) : Option (Unit) := some (())
def a56 : AFn := ⟨8, [(.tmp 3)],
 (.seq (.reg [⟨(some 2), none, .box (.t 0), [], none⟩,
   ⟨(some 3), none, .mv (kB false), [], none⟩])
 (.seq (.reg [⟨(some 4), none, .fieldA 0 (.t 2), [], none⟩,
   ⟨(some 5), none, .load none (.t 4), [], none⟩,
   ⟨(some 6), none, .load none (.t 1), [], none⟩,
   ⟨(some 7), none, .bin .eql (.t 5) (.t 6), [], none⟩,
   ⟨(some 3), none, .mv (.t 7), [], none⟩])
 .ret))⟩
theorem a56_ok : afn Try.prog 56 = some a56.er := by kernel_rfl
theorem F56_ok {x0 : WorkItem} {b0 : ByteArray} {r : Unit} (h : F56 x0 b0 = some r) : CallD Try.prog 56 [.agg [.d (.v (.string x0.Key)), .d (.v (.int .i64 x0.At))], .c (.pt 0 0)] [some (.box [.d (.v (.string b0))])] (tupV [.c (.d (.v (.bool (decide (x0.Key = b0)))))]) [some (.box [.d (.v (.string b0))])] := by
  refine callS a56_ok (by simp [a56]) ?_
  rw [F56] at h
  simp only [a56, VW.down, Nat.reduceEqDiff, reduceCtorEq, Nat.reduceAdd, Nat.reduceLeDiff, Nat.reduceLT, Nat.reduceBEq, Nat.reduceSub, EE.down]
  obtain rfl := Option.some.inj h
  exact eF [some 0]

/- slices.IndexFunc[[]orchestrator/api.WorkItem,orchestrator/api.WorkItem] -/
def F55v2_l1 (b0 : ByteArray) : List WorkItem → Nat → Option ((Int) ⊕ (Unit))
  | [], o1_0 => some (Sum.inr (()))
  | xo1 :: xs, o1_0 => (F56 xo1 b0).bind fun t3 => (if xo1.Key = b0 then (some ((o1_0 : Int))).map Sum.inl else F55v2_l1 b0 xs (o1_0 + 1))
def F55v2 (x0 : (List WorkItem)) (b0 : ByteArray) : Option (Int) := (((ck (0 ≤ x0.length ∧ x0.length ≤ 4294967290)).bind fun u5 => F55v2_l1 b0 x0 0).bind fun o1 => match o1 with | Sum.inl f => some f | Sum.inr po1 => some ((-1)))
def a55v2 : AFn := ⟨19, [(.tmp 4)],
 (.seq (.reg [⟨(some 4), none, .mv (kI 0), [], none⟩])
 (.seq (.seq (.reg [⟨(some 6), none, .mv (.t 0), [], none⟩,
   ⟨(some 7), none, .len (.t 6), [], none⟩,
   ⟨(some 8), none, .mv (kI 0), [], none⟩])
 (.sem (.block 0 (.loop (.seq (.reg [⟨(some 9), none, .bin .lss (.t 8) (.t 7), [], none⟩])
 (.seq (.cond (.t 9)
 .skip
 (.exit 0))
 (.seq (.block 1 (.seq (.reg [⟨(some 10), none, .mv (.t 8), [], none⟩,
   ⟨(some 5), none, .mv (.t 10), [], none⟩])
 (.seq (.reg [⟨(some 11), none, .mv (.t 1), [], none⟩,
   ⟨(some 12), none, .mv (.t 0), [], none⟩,
   ⟨(some 13), none, .mv (.t 5), [], none⟩,
   ⟨(some 14), none, .indexA 2 (.t 12) (.t 13), [], none⟩,
   ⟨(some 15), none, .load (some 2) (.t 14), [], none⟩,
   ⟨(some 16), none, .callv (.t 11) [(.t 15)], [], (some [12, 14])⟩])
 (.cond (.t 16)
 (.seq (.reg [⟨(some 17), none, .mv (.t 5), [], none⟩,
   ⟨(some 4), none, .mv (.t 17), [], none⟩])
 .ret)
 .skip))))
 (.reg [⟨(some 18), none, .bin .add (.t 8) (kI 1), [], none⟩,
   ⟨(some 8), none, .mv (.t 18), [], none⟩]))))))))
 (.seq (.reg [⟨(some 4), none, .mv (kI (-1)), [], none⟩])
 .ret)))⟩
theorem a55v2_ok : afn Try.prog 55 = some a55v2.er := by kernel_rfl
theorem F55v2_ok {x0 : (List WorkItem)} {b0 : ByteArray} {r : Int} (h : F55v2 x0 b0 = some r) : CallD Try.prog 55 [.c (.d (.sl (x0.map eWorkItem))), .c (.fn 56 [(0, 0)])] [some (.box [.d (.v (.string b0))])] (tupV [.c (.d (.v (.int .i64 r)))]) [some (.box [.d (.v (.string b0))])] := by
  refine callS a55v2_ok (by simp [a55v2]) ?_
  rw [F55v2] at h
  simp only [a55v2, VW.down, Nat.reduceEqDiff, reduceCtorEq, Nat.reduceAdd, Nat.reduceLeDiff, Nat.reduceLT, Nat.reduceBEq, Nat.reduceSub, EE.down]
  obtain ⟨o1, ho, h⟩ := Option.bind_eq_some_iff.1 h
  refine cutS (fun s => ∃ po1, o1 = Sum.inr po1 ∧ s = ⟨[], [some (.box [.d (.v (.string b0))])]⟩) ?_ ?_
  · have h0o1 := h
    have h := ho
    clear ho
    obtain ⟨_, hk, h⟩ := Option.bind_eq_some_iff.1 h
    have hk := ck_some hk
    simp only [VW.down, Nat.reduceEqDiff, reduceCtorEq, Nat.reduceAdd, Nat.reduceLeDiff, Nat.reduceLT, Nat.reduceBEq, Nat.reduceSub, EE.down]
    refine bL (fun j s => ∃ (o1_0 : Nat), (o1_0 ≤ x0.length ∧ j = x0.length - o1_0) ∧ s = ⟨[(0, .one (.c (.d (.sl (x0.map eWorkItem))))), (1, .one (.c (.fn 56 [(0, 0)]))), (7, .one (.c (.d (.v (.int .i64 ((x0.length : Int))))))), (8, .one (.c (.d (.v (.int .i64 ((o1_0 : Int)))))))], [some (.box [.d (.v (.string b0))])]⟩ ∧ F55v2_l1 b0 (x0.drop o1_0) o1_0 = some o1) (x0.length - 0) [some 0] ⟨0, ⟨hk.1, rfl⟩, rfl, h⟩ ?_
    rintro _ _ ⟨o1_0, ⟨hi, rfl⟩, rfl, h⟩
    simp only [VW.down, Nat.reduceEqDiff, reduceCtorEq, Nat.reduceAdd, Nat.reduceLeDiff, Nat.reduceLT, Nat.reduceBEq, Nat.reduceSub, EE.down]
    refine condS (fun c2 => ?_) (fun c2 => ?_)
    · obtain ⟨xo1, hxo1, hd⟩ := countY c2
      rw [hd, F55v2_l1] at h
      simp only [VW.down, Nat.reduceEqDiff, reduceCtorEq, Nat.reduceAdd, Nat.reduceLeDiff, Nat.reduceLT, Nat.reduceBEq, Nat.reduceSub, EE.down]
      refine t_idxF (enc := eWorkItem) (xs := x0) rfl rfl hxo1 rfl ?_
      simp only [VW.down, Nat.reduceEqDiff, reduceCtorEq, Nat.reduceAdd, Nat.reduceLeDiff, Nat.reduceLT, Nat.reduceBEq, Nat.reduceSub, EE.down]
      obtain ⟨t3, ht3, h⟩ := Option.bind_eq_some_iff.1 h
      refine callX_n [0] (F56_ok ht3) ?_ ?_ ?_ ?_ ?_ ?_
      · first | rfl | simp [nrmA, nrmC, nrm, A1.ren, C.ren, rn, List.length_set]
      · simp [liveAll, A1.live, C.live, hp]
      · rfl
      · decide
      · exact ⟨⟨rfl, by simp [Blk.live, C.live, hp]⟩, trivial⟩
      simp only [VW.down, Nat.reduceEqDiff, reduceCtorEq, Nat.reduceAdd, Nat.reduceLeDiff, Nat.reduceLT, Nat.reduceBEq, Nat.reduceSub, EE.down]
      refine condS (fun c4 => ?_) (fun c4 => ?_)
      · have h := (if_pos c4).symm.trans h
        simp only [VW.down, Nat.reduceEqDiff, reduceCtorEq, Nat.reduceAdd, Nat.reduceLeDiff, Nat.reduceLT, Nat.reduceBEq, Nat.reduceSub, EE.down]
        obtain ⟨fh0o1, hfh0o1, rfl⟩ := Option.map_eq_some_iff.1 h
        have h := hfh0o1.trans h0o1
        obtain rfl := Option.some.inj h
        exact eF [some 0]
      · have h := (if_neg c4).symm.trans h
        simp only [VW.down, Nat.reduceEqDiff, reduceCtorEq, Nat.reduceAdd, Nat.reduceLeDiff, Nat.reduceLT, Nat.reduceBEq, Nat.reduceSub, EE.down]
        rw [wrapN (by omega)]
        exact eL' (x0.length - (o1_0 + 1)) [some 0] ⟨o1_0 + 1, ⟨by omega, rfl⟩, rfl, h⟩ (by omega)
    · rw [countN c2, F55v2_l1] at h
      simp only [VW.down, Nat.reduceEqDiff, reduceCtorEq, Nat.reduceAdd, Nat.reduceLeDiff, Nat.reduceLT, Nat.reduceBEq, Nat.reduceSub, EE.down]
      obtain rfl := Option.some.inj h
      exact eM [some 0] ⟨_, rfl, rfl⟩
  · rintro _ ⟨po1, rfl, rfl⟩
    clear ho
    dsimp only at h
    simp only [VW.down, Nat.reduceEqDiff, reduceCtorEq, Nat.reduceAdd, Nat.reduceLeDiff, Nat.reduceLT, Nat.reduceBEq, Nat.reduceSub, EE.down]
    obtain rfl := Option.some.inj h
    exact eF [some 0]

/- orchestrator/schedqueue.lookup -/
def F39 (x0 : (List WorkItem)) (x1 : ByteArray) : Option (Int) := (F55v2 x0 x1).bind fun t1 => (if t1 < 0 then some 0 else (rdI x0 t1).bind fun y3 => some y3.At)
def a39 : AFn := ⟨16, [(.tmp 4)],
 (.seq (.reg [⟨(some 3), none, .box (.t 1), [], none⟩,
   ⟨(some 4), none, .mv (kI 0), [], none⟩])
 (.seq (.reg [⟨(some 6), none, .mv (.t 0), [], none⟩,
   ⟨(some 7), none, .fn 56 [(.t 3)], [], none⟩,
   ⟨(some 8), none, .call 55 [(.t 6), (.t 7)], [], none⟩,
   ⟨(some 5), none, .mv (.t 8), [], none⟩])
 (.seq (.seq (.reg [⟨(some 9), none, .mv (.t 5), [], none⟩,
   ⟨(some 10), none, .bin .lss (.t 9) (kI 0), [], none⟩])
 (.cond (.t 10)
 (.seq (.reg [⟨(some 4), none, .mv (kI 0), [], none⟩])
 .ret)
 .skip))
 (.seq (.reg [⟨(some 11), none, .mv (.t 0), [], none⟩,
   ⟨(some 12), none, .mv (.t 5), [], none⟩,
   ⟨(some 13), none, .indexA 2 (.t 11) (.t 12), [], none⟩,
   ⟨(some 14), none, .fieldA 1 (.t 13), [], none⟩,
   ⟨(some 15), none, .load none (.t 14), [], none⟩,
   ⟨(some 4), none, .mv (.t 15), [], none⟩])
 .ret))))⟩
theorem a39_ok : afn Try.prog 39 = some a39.er := by kernel_rfl
theorem F39_ok {x0 : (List WorkItem)} {x1 : ByteArray} {r : Int} (h : F39 x0 x1 = some r) : CallD Try.prog 39 [.c (.d (.sl (x0.map eWorkItem))), .c (.d (.v (.string x1)))] [] (tupV [.c (.d (.v (.int .i64 r)))]) [] := by
  refine callS a39_ok (by simp [a39]) ?_
  rw [F39] at h
  simp only [a39, VW.down, Nat.reduceEqDiff, reduceCtorEq, Nat.reduceAdd, Nat.reduceLeDiff, Nat.reduceLT, Nat.reduceBEq, Nat.reduceSub, EE.down]
  obtain ⟨t1, ht1, h⟩ := Option.bind_eq_some_iff.1 h
  refine callX_n [0] (F55v2_ok ht1) ?_ ?_ ?_ ?_ ?_ ?_
  · first | rfl | simp [nrmA, nrmC, nrm, A1.ren, C.ren, rn, List.length_set]
  · simp [liveAll, A1.live, C.live, hp]
  · rfl
  · decide
  · exact ⟨⟨rfl, by simp [Blk.live, C.live, hp]⟩, trivial⟩
  simp only [VW.down, Nat.reduceEqDiff, reduceCtorEq, Nat.reduceAdd, Nat.reduceLeDiff, Nat.reduceLT, Nat.reduceBEq, Nat.reduceSub, EE.down]
  refine condS (fun c2 => ?_) (fun c2 => ?_)
  · have h := (if_pos c2).symm.trans h
    simp only [VW.down, Nat.reduceEqDiff, reduceCtorEq, Nat.reduceAdd, Nat.reduceLeDiff, Nat.reduceLT, Nat.reduceBEq, Nat.reduceSub, EE.down]
    obtain rfl := Option.some.inj h
    exact eF []
  · have h := (if_neg c2).symm.trans h
    simp only [VW.down, Nat.reduceEqDiff, reduceCtorEq, Nat.reduceAdd, Nat.reduceLeDiff, Nat.reduceLT, Nat.reduceBEq, Nat.reduceSub, EE.down]
    obtain ⟨y3, hy3, h⟩ := Option.bind_eq_some_iff.1 h
    refine t_idxF (enc := eWorkItem) (xs := x0) rfl rfl hy3 rfl ?_
    simp only [VW.down, Nat.reduceEqDiff, reduceCtorEq, Nat.reduceAdd, Nat.reduceLeDiff, Nat.reduceLT, Nat.reduceBEq, Nat.reduceSub, EE.down]
    obtain rfl := Option.some.inj h
    exact eF []

/- orchestrator/backoff.clamp -/
def F57 (x0 : Int) : Option (Unit) := some (())
def a57 : AFn := ⟨6, [(.tmp 2)],
 (.seq (.reg [⟨(some 2), none, .mv (kI 0), [], none⟩])
 (.seq (.reg [⟨(some 3), none, .mv (.t 0), [], none⟩,
   ⟨(some 4), none, .max (.t 3) (kI 0), [], none⟩,
   ⟨(some 5), none, .min (.t 4) (kI 1000000000000), [], none⟩,
   ⟨(some 2), none, .mv (.t 5), [], none⟩])
 .ret))⟩
theorem a57_ok : afn Try.prog 57 = some a57.er := by kernel_rfl
theorem F57_ok {x0 : Int} {r : Unit} (h : F57 x0 = some r) : CallD Try.prog 57 [.c (.d (.v (.int .i64 x0)))] [] (tupV [.c (.d (.v (.int .i64 ((if 1000000000000 < (if x0 < 0 then 0 else x0) then 1000000000000 else (if x0 < 0 then 0 else x0))))))]) [] := by
  refine callS a57_ok (by simp [a57]) ?_
  rw [F57] at h
  simp only [a57, VW.down, Nat.reduceEqDiff, reduceCtorEq, Nat.reduceAdd, Nat.reduceLeDiff, Nat.reduceLT, Nat.reduceBEq, Nat.reduceSub, EE.down]
  obtain rfl := Option.some.inj h
  exact eF []

/- orchestrator/backoff.Delay -/
def F40_l4 (x1 : Int) (x2 : Int) : Nat → Int → Int → Option (Int)
  | 0, _, _ => none
  | k + 1, o4_0, o4_1 => (if o4_1 < (if 64 < (IntKind.i64.wrap (x2 - 1)) then 64 else (IntKind.i64.wrap (x2 - 1))) then (if (if 1000000000000 < (if x1 < 0 then 0 else x1) then 1000000000000 else (if x1 < 0 then 0 else x1)) ≤ o4_0 then some o4_0 else F40_l4 x1 x2 k ((IntKind.i64.wrap (o4_0 * 2))) ((IntKind.i64.wrap (o4_1 + 1)))) else some o4_0)
def F40 (x0 : Int) (x1 : Int) (x2 : Int) : Option (Int) := (F57 x0).bind fun t1 => (F57 x1).bind fun t2 => (if x2 < 1 then some 0 else ((F40_l4 x1 x2 1099511627776 ((if 1000000000000 < (if x0 < 0 then 0 else x0) then 1000000000000 else (if x0 < 0 then 0 else x0))) 0).bind fun o4 => some ((if (if 1000000000000 < (if x1 < 0 then 0 else x1) then 1000000000000 else (if x1 < 0 then 0 else x1)) < o4 then (if 1000000000000 < (if x1 < 0 then 0 else x1) then 1000000000000 else (if x1 < 0 then 0 else x1)) else o4))))
def a40 : AFn := ⟨29, [(.tmp 6)],
 (.seq (.reg [⟨(some 6), none, .mv (kI 0), [], none⟩])
 (.seq (.reg [⟨(some 9), none, .mv (.t 0), [], none⟩,
   ⟨(some 10), none, .call 57 [(.t 9)], [], none⟩,
   ⟨(some 11), none, .mv (.t 1), [], none⟩,
   ⟨(some 12), none, .call 57 [(.t 11)], [], none⟩,
   ⟨(some 7), none, .mv (.t 10), [], none⟩,
   ⟨(some 8), none, .mv (.t 12), [], none⟩])
 (.seq (.seq (.reg [⟨(some 13), none, .mv (.t 2), [], none⟩,
   ⟨(some 14), none, .bin .lss (.t 13) (kI 1), [], none⟩])
 (.cond (.t 14)
 (.seq (.reg [⟨(some 6), none, .mv (kI 0), [], none⟩])
 .ret)
 .skip))
 (.seq (.seq (.reg [⟨(some 15), none, .mv (.t 2), [], none⟩,
   ⟨(some 16), none, .bin .sub (.t 15) (kI 1), [], none⟩,
   ⟨(some 17), none, .min (.t 16) (kI 64), [], none⟩,
   ⟨(some 18), none, .mv (kI 0), [], none⟩])
 (.sem (.block 0 (.loop (.seq (.reg [⟨(some 19), none, .bin .lss (.t 18) (.t 17), [], none⟩])
 (.seq (.cond (.t 19)
 .skip
 (.exit 0))
 (.seq (.block 1 (.seq (.seq (.reg [⟨(some 20), none, .mv (.t 7), [], none⟩,
   ⟨(some 21), none, .mv (.t 8), [], none⟩,
   ⟨(some 22), none, .bin .geq (.t 20) (.t 21), [], none⟩])
 (.cond (.t 22)
 (.exit 0)
 .skip))
 (.reg [⟨(some 23), none, .mv (.t 7), [], none⟩,
   ⟨(some 24), none, .bin .mul (.t 23) (kI 2), [], none⟩,
   ⟨(some 7), none, .mv (.t 24), [], none⟩])))
 (.reg [⟨(some 25), none, .bin .add (.t 18) (kI 1), [], none⟩,
   ⟨(some 18), none, .mv (.t 25), [], none⟩]))))))))
 (.seq (.reg [⟨(some 26), none, .mv (.t 7), [], none⟩,
   ⟨(some 27), none, .mv (.t 8), [], none⟩,
   ⟨(some 28), none, .min (.t 26) (.t 27), [], none⟩,
   ⟨(some 6), none, .mv (.t 28), [], none⟩])
 .ret)))))⟩
theorem a40_ok : afn Try.prog 40 = some a40.er := by kernel_rfl
theorem F40_ok {x0 : Int} {x1 : Int} {x2 : Int} {r : Int} (h : F40 x0 x1 x2 = some r) : CallD Try.prog 40 [.c (.d (.v (.int .i64 x0))), .c (.d (.v (.int .i64 x1))), .c (.d (.v (.int .i64 x2)))] [] (tupV [.c (.d (.v (.int .i64 r)))]) [] := by
  refine callS a40_ok (by simp [a40]) ?_
  rw [F40] at h
  simp only [a40, VW.down, Nat.reduceEqDiff, reduceCtorEq, Nat.reduceAdd, Nat.reduceLeDiff, Nat.reduceLT, Nat.reduceBEq, Nat.reduceSub, EE.down]
  obtain ⟨t1, ht1, h⟩ := Option.bind_eq_some_iff.1 h
  refine callX_n [] (F57_ok ht1) ?_ ?_ ?_ ?_ ?_ ?_
  · first | rfl | simp [nrmA, nrmC, nrm, A1.ren, C.ren, rn, List.length_set]
  · simp [liveAll, A1.live, C.live]
  · rfl
  · decide
  · exact trivial
  simp only [VW.down, Nat.reduceEqDiff, reduceCtorEq, Nat.reduceAdd, Nat.reduceLeDiff, Nat.reduceLT, Nat.reduceBEq, Nat.reduceSub, EE.down]
  obtain ⟨t2, ht2, h⟩ := Option.bind_eq_some_iff.1 h
  refine callX_n [] (F57_ok ht2) ?_ ?_ ?_ ?_ ?_ ?_
  · first | rfl | simp [nrmA, nrmC, nrm, A1.ren, C.ren, rn, List.length_set]
  · simp [liveAll, A1.live, C.live]
  · rfl
  · decide
  · exact trivial
  simp only [VW.down, Nat.reduceEqDiff, reduceCtorEq, Nat.reduceAdd, Nat.reduceLeDiff, Nat.reduceLT, Nat.reduceBEq, Nat.reduceSub, EE.down]
  refine condS (fun c3 => ?_) (fun c3 => ?_)
  · have h := (if_pos c3).symm.trans h
    simp only [VW.down, Nat.reduceEqDiff, reduceCtorEq, Nat.reduceAdd, Nat.reduceLeDiff, Nat.reduceLT, Nat.reduceBEq, Nat.reduceSub, EE.down]
    obtain rfl := Option.some.inj h
    exact eF []
  · have h := (if_neg c3).symm.trans h
    simp only [VW.down, Nat.reduceEqDiff, reduceCtorEq, Nat.reduceAdd, Nat.reduceLeDiff, Nat.reduceLT, Nat.reduceBEq, Nat.reduceSub, EE.down]
    obtain ⟨o4, ho, h⟩ := Option.bind_eq_some_iff.1 h
    refine cutS (fun s => s = ⟨[(7, .one (.c (.d (.v (.int .i64 o4))))), (8, .one (.c (.d (.v (.int .i64 ((if 1000000000000 < (if x1 < 0 then 0 else x1) then 1000000000000 else (if x1 < 0 then 0 else x1))))))))], []⟩) ?_ ?_
    · have h := ho
      clear ho
      simp only [VW.down, Nat.reduceEqDiff, reduceCtorEq, Nat.reduceAdd, Nat.reduceLeDiff, Nat.reduceLT, Nat.reduceBEq, Nat.reduceSub, EE.down]
      refine bL (fun j s => ∃ (o4_0 : Int) (o4_1 : Int), s = ⟨[(7, .one (.c (.d (.v (.int .i64 o4_0))))), (8, .one (.c (.d (.v (.int .i64 ((if 1000000000000 < (if x1 < 0 then 0 else x1) then 1000000000000 else (if x1 < 0 then 0 else x1)))))))), (17, .one (.c (.d (.v (.int .i64 ((if 64 < (IntKind.i64.wrap (x2 - 1)) then 64 else (IntKind.i64.wrap (x2 - 1))))))))), (18, .one (.c (.d (.v (.int .i64 o4_1)))))], []⟩ ∧ F40_l4 x1 x2 j o4_0 o4_1 = some o4) 1099511627776 [] ⟨(if 1000000000000 < (if x0 < 0 then 0 else x0) then 1000000000000 else (if x0 < 0 then 0 else x0)), 0, rfl, h⟩ ?_
      rintro j _ ⟨o4_0, o4_1, rfl, h⟩
      cases j with
      | zero => cases (show (none : Option _) = some _ from h)
      | succ j =>
        rw [F40_l4] at h
        simp only [VW.down, Nat.reduceEqDiff, reduceCtorEq, Nat.reduceAdd, Nat.reduceLeDiff, Nat.reduceLT, Nat.reduceBEq, Nat.reduceSub, EE.down]
        refine condS (fun c5 => ?_) (fun c5 => ?_)
        · have h := (if_pos c5).symm.trans h
          simp only [VW.down, Nat.reduceEqDiff, reduceCtorEq, Nat.reduceAdd, Nat.reduceLeDiff, Nat.reduceLT, Nat.reduceBEq, Nat.reduceSub, EE.down]
          refine condS (fun c6 => ?_) (fun c6 => ?_)
          · have h := (if_pos c6).symm.trans h
            simp only [VW.down, Nat.reduceEqDiff, reduceCtorEq, Nat.reduceAdd, Nat.reduceLeDiff, Nat.reduceLT, Nat.reduceBEq, Nat.reduceSub, EE.down]
            obtain rfl := Option.some.inj h
            exact eM [] rfl
          · have h := (if_neg c6).symm.trans h
            simp only [VW.down, Nat.reduceEqDiff, reduceCtorEq, Nat.reduceAdd, Nat.reduceLeDiff, Nat.reduceLT, Nat.reduceBEq, Nat.reduceSub, EE.down]
            exact eL' j [] ⟨(IntKind.i64.wrap (o4_0 * 2)), (IntKind.i64.wrap (o4_1 + 1)), rfl, h⟩ (Nat.lt_succ_self _)
        · have h := (if_neg c5).symm.trans h
          simp only [VW.down, Nat.reduceEqDiff, reduceCtorEq, Nat.reduceAdd, Nat.reduceLeDiff, Nat.reduceLT, Nat.reduceBEq, Nat.reduceSub, EE.down]
          obtain rfl := Option.some.inj h
          exact eM [] rfl
    · rintro _ rfl
      clear ho
      simp only [VW.down, Nat.reduceEqDiff, reduceCtorEq, Nat.reduceAdd, Nat.reduceLeDiff, Nat.reduceLT, Nat.reduceBEq, Nat.reduceSub, EE.down]
      obtain rfl := Option.some.inj h
      exact eF []

/- strings.Compare's own -/
noncomputable def fn67 : Func := (Try.prog.funcs[67]?).getD default
theorem fn67_ok : Try.prog.funcs[67]? = some fn67 := by kernel_rfl
theorem F67_ok {a b : ByteArray} {r : Int} (h : cmpS a b = some r) : CallD Try.prog 67 [.c (.d (.v (.string a))), .c (.d (.v (.string b)))] [] (tupV [.c (.d (.v (.int .i64 r)))]) [] := L_cmp fn67_ok (by kernel_rfl) (by kernel_rfl) (by kernel_rfl) (by kernel_rfl) h

/- internal/bytealg.CompareString -/
def F65 (x0 : ByteArray) (x1 : ByteArray) : Option (Int) := (cmpS x0 x1).bind fun t1 => some t1
def a65 : AFn := ⟨8, [(.tmp 4)],
 (.seq (.reg [⟨(some 4), none, .mv (kI 0), [], none⟩])
 (.seq (.reg [⟨(some 5), none, .mv (.t 0), [], none⟩,
   ⟨(some 6), none, .mv (.t 1), [], none⟩,
   ⟨(some 7), none, .call 67 [(.t 5), (.t 6)], [], none⟩,
   ⟨(some 4), none, .mv (.t 7), [], none⟩])
 .ret))⟩
theorem a65_ok : afn Try.prog 65 = some a65.er := by kernel_rfl
theorem F65_ok {x0 : ByteArray} {x1 : ByteArray} {r : Int} (h : F65 x0 x1 = some r) : CallD Try.prog 65 [.c (.d (.v (.string x0))), .c (.d (.v (.string x1)))] [] (tupV [.c (.d (.v (.int .i64 r)))]) [] := by
  refine callS a65_ok (by simp [a65]) ?_
  rw [F65] at h
  simp only [a65, VW.down, Nat.reduceEqDiff, reduceCtorEq, Nat.reduceAdd, Nat.reduceLeDiff, Nat.reduceLT, Nat.reduceBEq, Nat.reduceSub, EE.down]
  obtain ⟨t1, ht1, h⟩ := Option.bind_eq_some_iff.1 h
  refine callX_n [] (F67_ok ht1) ?_ ?_ ?_ ?_ ?_ ?_
  · first | rfl | simp [nrmA, nrmC, nrm, A1.ren, C.ren, rn, List.length_set]
  · simp [liveAll, A1.live, C.live]
  · rfl
  · decide
  · exact trivial
  simp only [VW.down, Nat.reduceEqDiff, reduceCtorEq, Nat.reduceAdd, Nat.reduceLeDiff, Nat.reduceLT, Nat.reduceBEq, Nat.reduceSub, EE.down]
  obtain rfl := Option.some.inj h
  exact eF []

/- strings.Compare -/
def F60 (x0 : ByteArray) (x1 : ByteArray) : Option (Int) := (F65 x0 x1).bind fun t1 => some t1
def a60 : AFn := ⟨8, [(.tmp 4)],
 (.seq (.reg [⟨(some 4), none, .mv (kI 0), [], none⟩])
 (.seq (.reg [⟨(some 5), none, .mv (.t 0), [], none⟩,
   ⟨(some 6), none, .mv (.t 1), [], none⟩,
   ⟨(some 7), none, .call 65 [(.t 5), (.t 6)], [], none⟩,
   ⟨(some 4), none, .mv (.t 7), [], none⟩])
 .ret))⟩
theorem a60_ok : afn Try.prog 60 = some a60.er := by kernel_rfl
theorem F60_ok {x0 : ByteArray} {x1 : ByteArray} {r : Int} (h : F60 x0 x1 = some r) : CallD Try.prog 60 [.c (.d (.v (.string x0))), .c (.d (.v (.string x1)))] [] (tupV [.c (.d (.v (.int .i64 r)))]) [] := by
  refine callS a60_ok (by simp [a60]) ?_
  rw [F60] at h
  simp only [a60, VW.down, Nat.reduceEqDiff, reduceCtorEq, Nat.reduceAdd, Nat.reduceLeDiff, Nat.reduceLT, Nat.reduceBEq, Nat.reduceSub, EE.down]
  obtain ⟨t1, ht1, h⟩ := Option.bind_eq_some_iff.1 h
  refine callX_n [] (F65_ok ht1) ?_ ?_ ?_ ?_ ?_ ?_
  · first | rfl | simp [nrmA, nrmC, nrm, A1.ren, C.ren, rn, List.length_set]
  · simp [liveAll, A1.live, C.live]
  · rfl
  · decide
  · exact trivial
  simp only [VW.down, Nat.reduceEqDiff, reduceCtorEq, Nat.reduceAdd, Nat.reduceLeDiff, Nat.reduceLT, Nat.reduceBEq, Nat.reduceSub, EE.down]
  obtain rfl := Option.some.inj h
  exact eF []

/- orchestrator/schedqueue.byKey -/
def F42 (x0 : WorkItem) (x1 : WorkItem) : Option (Int) := (F60 x0.Key x1.Key).bind fun t1 => some t1
def a42 : AFn := ⟨10, [(.tmp 4)],
 (.seq (.reg [⟨(some 2), none, .box (.t 0), [], none⟩,
   ⟨(some 3), none, .box (.t 1), [], none⟩,
   ⟨(some 4), none, .mv (kI 0), [], none⟩])
 (.seq (.reg [⟨(some 5), none, .fieldA 0 (.t 2), [], none⟩,
   ⟨(some 6), none, .load none (.t 5), [], none⟩,
   ⟨(some 7), none, .fieldA 0 (.t 3), [], none⟩,
   ⟨(some 8), none, .load none (.t 7), [], none⟩,
   ⟨(some 9), none, .call 60 [(.t 6), (.t 8)], [], none⟩,
   ⟨(some 4), none, .mv (.t 9), [], none⟩])
 .ret))⟩
theorem a42_ok : afn Try.prog 42 = some a42.er := by kernel_rfl
theorem F42_ok {x0 : WorkItem} {x1 : WorkItem} {r : Int} (h : F42 x0 x1 = some r) : CallD Try.prog 42 [.agg [.d (.v (.string x0.Key)), .d (.v (.int .i64 x0.At))], .agg [.d (.v (.string x1.Key)), .d (.v (.int .i64 x1.At))]] [] (tupV [.c (.d (.v (.int .i64 r)))]) [] := by
  refine callS a42_ok (by simp [a42]) ?_
  rw [F42] at h
  simp only [a42, VW.down, Nat.reduceEqDiff, reduceCtorEq, Nat.reduceAdd, Nat.reduceLeDiff, Nat.reduceLT, Nat.reduceBEq, Nat.reduceSub, EE.down]
  obtain ⟨t1, ht1, h⟩ := Option.bind_eq_some_iff.1 h
  refine callX_n [] (F60_ok ht1) ?_ ?_ ?_ ?_ ?_ ?_
  · first | rfl | simp [nrmA, nrmC, nrm, A1.ren, C.ren, rn, List.length_set]
  · simp [liveAll, A1.live, C.live]
  · rfl
  · decide
  · exact trivial
  simp only [VW.down, Nat.reduceEqDiff, reduceCtorEq, Nat.reduceAdd, Nat.reduceLeDiff, Nat.reduceLT, Nat.reduceBEq, Nat.reduceSub, EE.down]
  obtain rfl := Option.some.inj h
  exact eF []

/- orchestrator/schedqueue.insert -/
def F36v1_l1 (x0 : (List WorkItem)) (x1 : WorkItem) : Nat → Int → Option (Int)
  | 0, _ => none
  | k + 1, o1_0 => (((if o1_0 < (x0.length : Int) then (rdI x0 o1_0).bind fun y4 => (F42 y4 x1).bind fun t5 => some (decide (t5 ≤ 0)) else some false)).bind fun o2 => (if o2 = true then F36v1_l1 x0 x1 k ((IntKind.i64.wrap (o1_0 + 1))) else some o1_0))
def F36v1 (x0 : (List WorkItem)) (x1 : WorkItem) : Option ((List WorkItem)) := ((F36v1_l1 x0 x1 1099511627776 0).bind fun o1 => (insI x0 o1 x1).bind fun t7 => some t7)
def a36v1 : AFn := ⟨29, [(.tmp 6)],
 (.seq (.reg [⟨(some 4), none, .box (.t 1), [], none⟩,
   ⟨(some 6), none, .mv kN, [], none⟩])
 (.seq (.reg [⟨(some 7), none, .mv (kI 0), [], none⟩])
 (.seq (.sem (.block 0 (.loop (.seq (.seq (.sem (.regd [⟨(some 8), none, .mv (.t 7), [], none⟩,
   ⟨(some 9), none, .mv (.t 0), [], none⟩,
   ⟨(some 10), none, .len (.t 9), [1], none⟩,
   ⟨(some 11), none, .bin .lss (.t 8) (.t 10), [0, 1, 2], none⟩,
   ⟨(some 12), none, .mv (.t 11), [0, 1, 2, 3], none⟩,
   ⟨(some 13), (some (12, true)), .mv (.t 2), [0, 1, 2, 3, 4], none⟩,
   ⟨(some 14), (some (12, true)), .mv (.t 0), [0, 1, 2, 3, 4], none⟩,
   ⟨(some 15), (some (12, true)), .mv (.t 7), [0, 1, 2, 3, 4], none⟩,
   ⟨(some 16), (some (12, true)), .indexA 2 (.t 14) (.t 15), [0, 1, 2, 3, 4, 6, 7], none⟩,
   ⟨(some 17), (some (12, true)), .load (some 2) (.t 16), [0, 1, 2, 3, 4, 6, 7, 8], none⟩,
   ⟨(some 18), (some (12, true)), .load (some 2) (.t 4), [0, 1, 2, 3, 4], none⟩,
   ⟨(some 19), (some (12, true)), .callv (.t 13) [(.t 17), (.t 18)], [0, 1, 2, 3, 4, 5, 6, 7, 8, 9, 10], (some [])⟩,
   ⟨(some 20), (some (12, true)), .bin .leq (.t 19) (kI 0), [0, 1, 2, 3, 4, 5, 6, 7, 8, 9, 10, 11], none⟩,
   ⟨(some 21), none, .pick (.t 12) (.t 20) (kB false), [0, 1, 2, 3, 4, 5, 6, 7, 8, 9, 10, 11, 12], (some [])⟩]))
 (.cond (.t 21)
 .skip
 (.exit 0)))
 (.block 1 (.reg [⟨(some 22), none, .mv (.t 7), [], none⟩,
   ⟨(some 23), none, .bin .add (.t 22) (kI 1), [], none⟩,
   ⟨(some 7), none, .mv (.t 23), [], none⟩]))))))
 (.seq (.reg [⟨(some 24), none, .mv (.t 0), [], none⟩,
   ⟨(some 25), none, .mv (.t 7), [], none⟩,
   ⟨(some 26), none, .load (some 2) (.t 4), [], none⟩,
   ⟨(some 27), none, .bslice 2 [(.t 26)], [], none⟩,
   ⟨(some 28), none, .call 53 [(.t 24), (.t 25), (.t 27)], [], none⟩,
   ⟨(some 6), none, .mv (.t 28), [], none⟩])
 .ret))))⟩
theorem a36v1_ok : afn Try.prog 36 = some a36v1.er := by kernel_rfl
theorem F36v1_ok {x0 : (List WorkItem)} {x1 : WorkItem} {r : (List WorkItem)} {e0 : Nat} (h : F36v1 x0 x1 = some r) : CallD Try.prog 36 [.c (.own 0 e0 0 (x0.length) none), .agg [.d (.v (.string x1.Key)), .d (.v (.int .i64 x1.At))], .c (.fn 42 [])] [some (.arr e0 2 (x0.map eWorkItem))] (tupV [.c (.own 0 (e0 + 1) 0 (r.length) none)]) [some (.arr (e0 + 1) 2 (r.map eWorkItem))] := by
  refine callS a36v1_ok (by simp [a36v1]) ?_
  rw [F36v1] at h
  simp only [a36v1, VW.down, Nat.reduceEqDiff, reduceCtorEq, Nat.reduceAdd, Nat.reduceLeDiff, Nat.reduceLT, Nat.reduceBEq, Nat.reduceSub, EE.down]
  obtain ⟨o1, ho, h⟩ := Option.bind_eq_some_iff.1 h
  refine cutS (fun s => s = ⟨[(0, .one (.c (.own 0 e0 0 (x0.length) none))), (4, .one (.c (.pt 1 0))), (7, .one (.c (.d (.v (.int .i64 o1)))))], [some (.arr e0 2 (x0.map eWorkItem)), some (.box [.d (.v (.string x1.Key)), .d (.v (.int .i64 x1.At))])]⟩) ?_ ?_
  · have h := ho
    clear ho
    simp only [VW.down, Nat.reduceEqDiff, reduceCtorEq, Nat.reduceAdd, Nat.reduceLeDiff, Nat.reduceLT, Nat.reduceBEq, Nat.reduceSub, EE.down]
    refine bL (fun j s => ∃ (o1_0 : Int), s = ⟨[(0, .one (.c (.own 0 e0 0 (x0.length) none))), (2, .one (.c (.fn 42 []))), (4, .one (.c (.pt 1 0))), (7, .one (.c (.d (.v (.int .i64 o1_0)))))], [some (.arr e0 2 (x0.map eWorkItem)), some (.box [.d (.v (.string x1.Key)), .d (.v (.int .i64 x1.At))])]⟩ ∧ F36v1_l1 x0 x1 j o1_0 = some o1) 1099511627776 [some 0, some 1] ⟨0, rfl, h⟩ ?_
    rintro j _ ⟨o1_0, rfl, h⟩
    cases j with
    | zero => cases (show (none : Option _) = some _ from h)
    | succ j =>
      rw [F36v1_l1] at h
      simp only [VW.down, Nat.reduceEqDiff, reduceCtorEq, Nat.reduceAdd, Nat.reduceLeDiff, Nat.reduceLT, Nat.reduceBEq, Nat.reduceSub, EE.down]
      obtain ⟨o2, ho, h⟩ := Option.bind_eq_some_iff.1 h
      refine cutS (fun s => s = ⟨[(0, .one (.c (.own 0 e0 0 (x0.length) none))), (2, .one (.c (.fn 42 []))), (4, .one (.c (.pt 1 0))), (7, .one (.c (.d (.v (.int .i64 o1_0))))), (21, .one (.c (.d (.v (.bool o2)))))], [some (.arr e0 2 (x0.map eWorkItem)), some (.box [.d (.v (.string x1.Key)), .d (.v (.int .i64 x1.At))])]⟩) ?_ ?_
      · have h := ho
        clear ho
        simp only [VW.down, Nat.reduceEqDiff, reduceCtorEq, Nat.reduceAdd, Nat.reduceLeDiff, Nat.reduceLT, Nat.reduceBEq, Nat.reduceSub, EE.down]
        refine guardD (fun g3 => ?_) (fun g3 => ?_)
        · have h := (if_pos g3).symm.trans h
          simp only [VW.down, Nat.reduceEqDiff, reduceCtorEq, Nat.reduceAdd, Nat.reduceLeDiff, Nat.reduceLT, Nat.reduceBEq, Nat.reduceSub, EE.down]
          obtain ⟨y4, hy4, h⟩ := Option.bind_eq_some_iff.1 h
          refine t_idxO (enc := eWorkItem) (xs := x0) rfl rfl rfl (by first | rfl | simp only [List.length_set] | exact (clrL_len (slI_len (by assumption))).symm) hy4 ?_
          simp only [VW.down, Nat.reduceEqDiff, reduceCtorEq, Nat.reduceAdd, Nat.reduceLeDiff, Nat.reduceLT, Nat.reduceBEq, Nat.reduceSub, EE.down]
          refine LdRow.rd (rdI_some hy4).2.1 ?_
          simp only [VW.down, Nat.reduceEqDiff, reduceCtorEq, Nat.reduceAdd, Nat.reduceLeDiff, Nat.reduceLT, Nat.reduceBEq, Nat.reduceSub, EE.down]
          obtain ⟨t5, ht5, h⟩ := Option.bind_eq_some_iff.1 h
          refine callX_n [] (F42_ok ht5) ?_ ?_ ?_ ?_ ?_ ?_
          · first | rfl | simp [nrmA, nrmC, nrm, A1.ren, C.ren, rn, List.length_set]
          · simp [liveAll, A1.live, C.live]
          · rfl
          · decide
          · exact trivial
          simp only [VW.down, Nat.reduceEqDiff, reduceCtorEq, Nat.reduceAdd, Nat.reduceLeDiff, Nat.reduceLT, Nat.reduceBEq, Nat.reduceSub, EE.down]
          obtain rfl := Option.some.inj h
          exact eM [some 0, some 1] rfl
        · have h := (if_neg g3).symm.trans h
          simp only [VW.down, Nat.reduceEqDiff, reduceCtorEq, Nat.reduceAdd, Nat.reduceLeDiff, Nat.reduceLT, Nat.reduceBEq, Nat.reduceSub, EE.down]
          obtain rfl := Option.some.inj h
          exact eM [some 0, some 1] rfl
      · rintro _ rfl
        clear ho
        simp only [VW.down, Nat.reduceEqDiff, reduceCtorEq, Nat.reduceAdd, Nat.reduceLeDiff, Nat.reduceLT, Nat.reduceBEq, Nat.reduceSub, EE.down]
        refine condB (fun c6 => ?_) (fun c6 => ?_)
        · have h := (if_pos c6).symm.trans h
          simp only [VW.down, Nat.reduceEqDiff, reduceCtorEq, Nat.reduceAdd, Nat.reduceLeDiff, Nat.reduceLT, Nat.reduceBEq, Nat.reduceSub, EE.down]
          exact eL' j [some 0, some 1] ⟨(IntKind.i64.wrap (o1_0 + 1)), rfl, h⟩ (Nat.lt_succ_self _)
        · have h := (if_neg c6).symm.trans h
          simp only [VW.down, Nat.reduceEqDiff, reduceCtorEq, Nat.reduceAdd, Nat.reduceLeDiff, Nat.reduceLT, Nat.reduceBEq, Nat.reduceSub, EE.down]
          obtain rfl := Option.some.inj h
          exact eM [some 0, some 1] rfl
  · rintro _ rfl
    clear ho
    simp only [VW.down, Nat.reduceEqDiff, reduceCtorEq, Nat.reduceAdd, Nat.reduceLeDiff, Nat.reduceLT, Nat.reduceBEq, Nat.reduceSub, EE.down]
    refine t_bslice (enc := eWorkItem) (ys := [x1]) rfl rfl (by simp [A1.cells]) rfl ?_
    simp only [VW.down, Nat.reduceEqDiff, reduceCtorEq, Nat.reduceAdd, Nat.reduceLeDiff, Nat.reduceLT, Nat.reduceBEq, Nat.reduceSub, EE.down]
    obtain ⟨t7, ht7, h⟩ := Option.bind_eq_some_iff.1 h
    refine callX_n [0, 2] (F53_ok (e0 := e0) (e1 := 0) ht7) ?_ ?_ ?_ ?_ ?_ ?_
    · first | rfl | simp [nrmA, nrmC, nrm, A1.ren, C.ren, rn, List.length_set]
    · simp [liveAll, A1.live, C.live, hp]
    · rfl
    · decide
    · exact ⟨⟨rfl, trivial⟩, ⟨⟨rfl, trivial⟩, trivial⟩⟩
    simp only [VW.down, Nat.reduceEqDiff, reduceCtorEq, Nat.reduceAdd, Nat.reduceLeDiff, Nat.reduceLT, Nat.reduceBEq, Nat.reduceSub, EE.down]
    obtain rfl := Option.some.inj h
    exact eF [some 0]

/- cmp.Or[int] -/
def F61_l1  : List Int → Nat → Option ((Int) ⊕ (Unit))
  | [], o1_0 => some (Sum.inr (()))
  | xo1 :: xs, o1_0 => (if ¬ (xo1 = 0) then (some xo1).map Sum.inl else F61_l1  xs (o1_0 + 1))
def F61 (x0 : (List Int)) : Option (Int) := (((ck (0 ≤ x0.length ∧ x0.length ≤ 4294967290)).bind fun u4 => F61_l1 x0 0).bind fun o1 => match o1 with | Sum.inl f => some f | Sum.inr po1 => some 0)
def a61 : AFn := ⟨18, [(.tmp 2)],
 (.seq (.reg [⟨(some 2), none, .mv (kI 0), [], none⟩])
 (.seq (.reg [⟨(some 3), none, .mv (kI 0), [], none⟩])
 (.seq (.seq (.reg [⟨(some 6), none, .mv (.t 0), [], none⟩,
   ⟨(some 7), none, .len (.t 6), [], none⟩,
   ⟨(some 8), none, .mv (kI 0), [], none⟩])
 (.sem (.block 0 (.loop (.seq (.reg [⟨(some 9), none, .bin .lss (.t 8) (.t 7), [], none⟩])
 (.seq (.cond (.t 9)
 .skip
 (.exit 0))
 (.seq (.block 1 (.seq (.reg [⟨(some 10), none, .indexA 1 (.t 6) (.t 8), [], none⟩,
   ⟨(some 11), none, .load none (.t 10), [], none⟩,
   ⟨(some 5), none, .mv (.t 11), [], none⟩])
 (.seq (.reg [⟨(some 12), none, .mv (.t 5), [], none⟩,
   ⟨(some 13), none, .mv (.t 3), [], none⟩,
   ⟨(some 14), none, .bin .neq (.t 12) (.t 13), [], none⟩])
 (.cond (.t 14)
 (.seq (.reg [⟨(some 15), none, .mv (.t 5), [], none⟩,
   ⟨(some 2), none, .mv (.t 15), [], none⟩])
 .ret)
 .skip))))
 (.reg [⟨(some 16), none, .bin .add (.t 8) (kI 1), [], none⟩,
   ⟨(some 8), none, .mv (.t 16), [], none⟩]))))))))
 (.seq (.reg [⟨(some 17), none, .mv (.t 3), [], none⟩,
   ⟨(some 2), none, .mv (.t 17), [], none⟩])
 .ret))))⟩
theorem a61_ok : afn Try.prog 61 = some a61.er := by kernel_rfl
theorem F61_ok {x0 : (List Int)} {r : Int} (h : F61 x0 = some r) : CallD Try.prog 61 [.c (.d (.sl (x0.map eI)))] [] (tupV [.c (.d (.v (.int .i64 r)))]) [] := by
  refine callS a61_ok (by simp [a61]) ?_
  rw [F61] at h
  simp only [a61, VW.down, Nat.reduceEqDiff, reduceCtorEq, Nat.reduceAdd, Nat.reduceLeDiff, Nat.reduceLT, Nat.reduceBEq, Nat.reduceSub, EE.down]
  obtain ⟨o1, ho, h⟩ := Option.bind_eq_some_iff.1 h
  refine cutS (fun s => ∃ po1, o1 = Sum.inr po1 ∧ s = ⟨[(3, .one (.c (.d (.v (.int .i64 0)))))], []⟩) ?_ ?_
  · have h0o1 := h
    have h := ho
    clear ho
    obtain ⟨_, hk, h⟩ := Option.bind_eq_some_iff.1 h
    have hk := ck_some hk
    simp only [VW.down, Nat.reduceEqDiff, reduceCtorEq, Nat.reduceAdd, Nat.reduceLeDiff, Nat.reduceLT, Nat.reduceBEq, Nat.reduceSub, EE.down]
    refine bL (fun j s => ∃ (o1_0 : Nat), (o1_0 ≤ x0.length ∧ j = x0.length - o1_0) ∧ s = ⟨[(3, .one (.c (.d (.v (.int .i64 0))))), (6, .one (.c (.d (.sl (x0.map eI))))), (7, .one (.c (.d (.v (.int .i64 ((x0.length : Int))))))), (8, .one (.c (.d (.v (.int .i64 ((o1_0 : Int)))))))], []⟩ ∧ F61_l1 (x0.drop o1_0) o1_0 = some o1) (x0.length - 0) [] ⟨0, ⟨hk.1, rfl⟩, rfl, h⟩ ?_
    rintro _ _ ⟨o1_0, ⟨hi, rfl⟩, rfl, h⟩
    simp only [VW.down, Nat.reduceEqDiff, reduceCtorEq, Nat.reduceAdd, Nat.reduceLeDiff, Nat.reduceLT, Nat.reduceBEq, Nat.reduceSub, EE.down]
    refine condS (fun c2 => ?_) (fun c2 => ?_)
    · obtain ⟨xo1, hxo1, hd⟩ := countY c2
      rw [hd, F61_l1] at h
      simp only [VW.down, Nat.reduceEqDiff, reduceCtorEq, Nat.reduceAdd, Nat.reduceLeDiff, Nat.reduceLT, Nat.reduceBEq, Nat.reduceSub, EE.down]
      refine t_idxF (enc := eI) (xs := x0) rfl rfl hxo1 rfl ?_
      simp only [VW.down, Nat.reduceEqDiff, reduceCtorEq, Nat.reduceAdd, Nat.reduceLeDiff, Nat.reduceLT, Nat.reduceBEq, Nat.reduceSub, EE.down]
      refine condS (fun c3 => ?_) (fun c3 => ?_)
      · have h := (if_pos c3).symm.trans h
        simp only [VW.down, Nat.reduceEqDiff, reduceCtorEq, Nat.reduceAdd, Nat.reduceLeDiff, Nat.reduceLT, Nat.reduceBEq, Nat.reduceSub, EE.down]
        obtain ⟨fh0o1, hfh0o1, rfl⟩ := Option.map_eq_some_iff.1 h
        have h := hfh0o1.trans h0o1
        obtain rfl := Option.some.inj h
        exact eF []
      · have h := (if_neg c3).symm.trans h
        simp only [VW.down, Nat.reduceEqDiff, reduceCtorEq, Nat.reduceAdd, Nat.reduceLeDiff, Nat.reduceLT, Nat.reduceBEq, Nat.reduceSub, EE.down]
        rw [wrapN (by omega)]
        exact eL' (x0.length - (o1_0 + 1)) [] ⟨o1_0 + 1, ⟨by omega, rfl⟩, rfl, h⟩ (by omega)
    · rw [countN c2, F61_l1] at h
      simp only [VW.down, Nat.reduceEqDiff, reduceCtorEq, Nat.reduceAdd, Nat.reduceLeDiff, Nat.reduceLT, Nat.reduceBEq, Nat.reduceSub, EE.down]
      obtain rfl := Option.some.inj h
      exact eM [] ⟨_, rfl, rfl⟩
  · rintro _ ⟨po1, rfl, rfl⟩
    clear ho
    dsimp only at h
    simp only [VW.down, Nat.reduceEqDiff, reduceCtorEq, Nat.reduceAdd, Nat.reduceLeDiff, Nat.reduceLT, Nat.reduceBEq, Nat.reduceSub, EE.down]
    obtain rfl := Option.some.inj h
    exact eF []

/- orchestrator/schedqueue.byTime -/
def F43 (x0 : WorkItem) (x1 : WorkItem) : Option (Int) := (F38 x0.At x1.At).bind fun t1 => (F42 x0 x1).bind fun t2 => (F61 ([t1, t2])).bind fun t3 => some t3
def a43 : AFn := ⟨15, [(.tmp 4)],
 (.seq (.reg [⟨(some 2), none, .box (.t 0), [], none⟩,
   ⟨(some 3), none, .box (.t 1), [], none⟩,
   ⟨(some 4), none, .mv (kI 0), [], none⟩])
 (.seq (.regd [⟨(some 5), none, .fieldA 1 (.t 2), [], none⟩,
   ⟨(some 6), none, .load none (.t 5), [0], none⟩,
   ⟨(some 7), none, .fieldA 1 (.t 3), [], none⟩,
   ⟨(some 8), none, .load none (.t 7), [2], none⟩,
   ⟨(some 9), none, .call 38 [(.t 6), (.t 8)], [0, 1, 2, 3], none⟩,
   ⟨(some 10), none, .load (some 2) (.t 2), [], none⟩,
   ⟨(some 11), none, .load (some 2) (.t 3), [], none⟩,
   ⟨(some 12), none, .call 42 [(.t 10), (.t 11)], [0, 1, 2, 3, 4, 5, 6], (some [])⟩,
   ⟨(some 13), none, .bslice 1 [(.t 9), (.t 12)], [0, 1, 2, 3, 4, 5, 6, 7], (some [])⟩,
   ⟨(some 14), none, .call 61 [(.t 13)], [0, 1, 2, 3, 4, 5, 6, 7, 8], (some [])⟩,
   ⟨(some 4), none, .mv (.t 14), [0, 1, 2, 3, 4, 5, 6, 7, 8, 9], none⟩])
 .ret))⟩
theorem a43_ok : afn Try.prog 43 = some a43.er := by kernel_rfl
theorem F43_ok {x0 : WorkItem} {x1 : WorkItem} {r : Int} (h : F43 x0 x1 = some r) : CallD Try.prog 43 [.agg [.d (.v (.string x0.Key)), .d (.v (.int .i64 x0.At))], .agg [.d (.v (.string x1.Key)), .d (.v (.int .i64 x1.At))]] [] (tupV [.c (.d (.v (.int .i64 r)))]) [] := by
  refine callS a43_ok (by simp [a43]) ?_
  rw [F43] at h
  simp only [a43, VW.down, Nat.reduceEqDiff, reduceCtorEq, Nat.reduceAdd, Nat.reduceLeDiff, Nat.reduceLT, Nat.reduceBEq, Nat.reduceSub, EE.down]
  obtain ⟨t1, ht1, h⟩ := Option.bind_eq_some_iff.1 h
  refine callX_n [] (F38_ok ht1) ?_ ?_ ?_ ?_ ?_ ?_
  · first | rfl | simp [nrmA, nrmC, nrm, A1.ren, C.ren, rn, List.length_set]
  · simp [liveAll, A1.live, C.live]
  · rfl
  · decide
  · exact trivial
  simp only [VW.down, Nat.reduceEqDiff, reduceCtorEq, Nat.reduceAdd, Nat.reduceLeDiff, Nat.reduceLT, Nat.reduceBEq, Nat.reduceSub, EE.down]
  obtain ⟨t2, ht2, h⟩ := Option.bind_eq_some_iff.1 h
  refine callX_n [] (F42_ok ht2) ?_ ?_ ?_ ?_ ?_ ?_
  · first | rfl | simp [nrmA, nrmC, nrm, A1.ren, C.ren, rn, List.length_set]
  · simp [liveAll, A1.live, C.live]
  · rfl
  · decide
  · exact trivial
  simp only [VW.down, Nat.reduceEqDiff, reduceCtorEq, Nat.reduceAdd, Nat.reduceLeDiff, Nat.reduceLT, Nat.reduceBEq, Nat.reduceSub, EE.down]
  refine t_bslice (enc := eI) (ys := [t1, t2]) rfl rfl (by simp [A1.cells]) rfl ?_
  simp only [VW.down, Nat.reduceEqDiff, reduceCtorEq, Nat.reduceAdd, Nat.reduceLeDiff, Nat.reduceLT, Nat.reduceBEq, Nat.reduceSub, EE.down]
  obtain ⟨t3, ht3, h⟩ := Option.bind_eq_some_iff.1 h
  refine callX_bor (F61_ok ht3) (by simp only [borAs, bors, hp, List.getElem?_cons_zero, List.getElem?_cons_succ, Option.join_some, List.drop_zero, bor_full', true_and, Nat.zero_add, List.length_map, Nat.le_refl, nrm, List.length_cons, List.length_nil, Nat.reduceAdd, Nat.reduceLeDiff, List.take_succ_cons, List.take_zero, List.take_nil, List.map_cons, List.map_nil, List.length_set, EE.down]) rfl ?_
  simp only [VW.down, Nat.reduceEqDiff, reduceCtorEq, Nat.reduceAdd, Nat.reduceLeDiff, Nat.reduceLT, Nat.reduceBEq, Nat.reduceSub, EE.down]
  obtain rfl := Option.some.inj h
  exact eF []

/- orchestrator/schedqueue.insert -/
def F36v2_l1 (x0 : (List WorkItem)) (x1 : WorkItem) : Nat → Int → Option (Int)
  | 0, _ => none
  | k + 1, o1_0 => (((if o1_0 < (x0.length : Int) then (rdI x0 o1_0).bind fun y4 => (F43 y4 x1).bind fun t5 => some (decide (t5 ≤ 0)) else some false)).bind fun o2 => (if o2 = true then F36v2_l1 x0 x1 k ((IntKind.i64.wrap (o1_0 + 1))) else some o1_0))
def F36v2 (x0 : (List WorkItem)) (x1 : WorkItem) : Option ((List WorkItem)) := ((F36v2_l1 x0 x1 1099511627776 0).bind fun o1 => (insI x0 o1 x1).bind fun t7 => some t7)
def a36v2 : AFn := ⟨29, [(.tmp 6)],
 (.seq (.reg [⟨(some 4), none, .box (.t 1), [], none⟩,
   ⟨(some 6), none, .mv kN, [], none⟩])
 (.seq (.reg [⟨(some 7), none, .mv (kI 0), [], none⟩])
 (.seq (.sem (.block 0 (.loop (.seq (.seq (.sem (.regd [⟨(some 8), none, .mv (.t 7), [], none⟩,
   ⟨(some 9), none, .mv (.t 0), [], none⟩,
   ⟨(some 10), none, .len (.t 9), [1], none⟩,
   ⟨(some 11), none, .bin .lss (.t 8) (.t 10), [0, 1, 2], none⟩,
   ⟨(some 12), none, .mv (.t 11), [0, 1, 2, 3], none⟩,
   ⟨(some 13), (some (12, true)), .mv (.t 2), [0, 1, 2, 3, 4], none⟩,
   ⟨(some 14), (some (12, true)), .mv (.t 0), [0, 1, 2, 3, 4], none⟩,
   ⟨(some 15), (some (12, true)), .mv (.t 7), [0, 1, 2, 3, 4], none⟩,
   ⟨(some 16), (some (12, true)), .indexA 2 (.t 14) (.t 15), [0, 1, 2, 3, 4, 6, 7], none⟩,
   ⟨(some 17), (some (12, true)), .load (some 2) (.t 16), [0, 1, 2, 3, 4, 6, 7, 8], none⟩,
   ⟨(some 18), (some (12, true)), .load (some 2) (.t 4), [0, 1, 2, 3, 4], none⟩,
   ⟨(some 19), (some (12, true)), .callv (.t 13) [(.t 17), (.t 18)], [0, 1, 2, 3, 4, 5, 6, 7, 8, 9, 10], (some [])⟩,
   ⟨(some 20), (some (12, true)), .bin .leq (.t 19) (kI 0), [0, 1, 2, 3, 4, 5, 6, 7, 8, 9, 10, 11], none⟩,
   ⟨(some 21), none, .pick (.t 12) (.t 20) (kB false), [0, 1, 2, 3, 4, 5, 6, 7, 8, 9, 10, 11, 12], (some [])⟩]))
 (.cond (.t 21)
 .skip
 (.exit 0)))
 (.block 1 (.reg [⟨(some 22), none, .mv (.t 7), [], none⟩,
   ⟨(some 23), none, .bin .add (.t 22) (kI 1), [], none⟩,
   ⟨(some 7), none, .mv (.t 23), [], none⟩]))))))
 (.seq (.reg [⟨(some 24), none, .mv (.t 0), [], none⟩,
   ⟨(some 25), none, .mv (.t 7), [], none⟩,
   ⟨(some 26), none, .load (some 2) (.t 4), [], none⟩,
   ⟨(some 27), none, .bslice 2 [(.t 26)], [], none⟩,
   ⟨(some 28), none, .call 53 [(.t 24), (.t 25), (.t 27)], [], none⟩,
   ⟨(some 6), none, .mv (.t 28), [], none⟩])
 .ret))))⟩
theorem a36v2_ok : afn Try.prog 36 = some a36v2.er := by kernel_rfl
theorem F36v2_ok {x0 : (List WorkItem)} {x1 : WorkItem} {r : (List WorkItem)} {e0 : Nat} (h : F36v2 x0 x1 = some r) : CallD Try.prog 36 [.c (.own 0 e0 0 (x0.length) none), .agg [.d (.v (.string x1.Key)), .d (.v (.int .i64 x1.At))], .c (.fn 43 [])] [some (.arr e0 2 (x0.map eWorkItem))] (tupV [.c (.own 0 (e0 + 1) 0 (r.length) none)]) [some (.arr (e0 + 1) 2 (r.map eWorkItem))] := by
  refine callS a36v2_ok (by simp [a36v2]) ?_
  rw [F36v2] at h
  simp only [a36v2, VW.down, Nat.reduceEqDiff, reduceCtorEq, Nat.reduceAdd, Nat.reduceLeDiff, Nat.reduceLT, Nat.reduceBEq, Nat.reduceSub, EE.down]
  obtain ⟨o1, ho, h⟩ := Option.bind_eq_some_iff.1 h
  refine cutS (fun s => s = ⟨[(0, .one (.c (.own 0 e0 0 (x0.length) none))), (4, .one (.c (.pt 1 0))), (7, .one (.c (.d (.v (.int .i64 o1)))))], [some (.arr e0 2 (x0.map eWorkItem)), some (.box [.d (.v (.string x1.Key)), .d (.v (.int .i64 x1.At))])]⟩) ?_ ?_
  · have h := ho
    clear ho
    simp only [VW.down, Nat.reduceEqDiff, reduceCtorEq, Nat.reduceAdd, Nat.reduceLeDiff, Nat.reduceLT, Nat.reduceBEq, Nat.reduceSub, EE.down]
    refine bL (fun j s => ∃ (o1_0 : Int), s = ⟨[(0, .one (.c (.own 0 e0 0 (x0.length) none))), (2, .one (.c (.fn 43 []))), (4, .one (.c (.pt 1 0))), (7, .one (.c (.d (.v (.int .i64 o1_0)))))], [some (.arr e0 2 (x0.map eWorkItem)), some (.box [.d (.v (.string x1.Key)), .d (.v (.int .i64 x1.At))])]⟩ ∧ F36v2_l1 x0 x1 j o1_0 = some o1) 1099511627776 [some 0, some 1] ⟨0, rfl, h⟩ ?_
    rintro j _ ⟨o1_0, rfl, h⟩
    cases j with
    | zero => cases (show (none : Option _) = some _ from h)
    | succ j =>
      rw [F36v2_l1] at h
      simp only [VW.down, Nat.reduceEqDiff, reduceCtorEq, Nat.reduceAdd, Nat.reduceLeDiff, Nat.reduceLT, Nat.reduceBEq, Nat.reduceSub, EE.down]
      obtain ⟨o2, ho, h⟩ := Option.bind_eq_some_iff.1 h
      refine cutS (fun s => s = ⟨[(0, .one (.c (.own 0 e0 0 (x0.length) none))), (2, .one (.c (.fn 43 []))), (4, .one (.c (.pt 1 0))), (7, .one (.c (.d (.v (.int .i64 o1_0))))), (21, .one (.c (.d (.v (.bool o2)))))], [some (.arr e0 2 (x0.map eWorkItem)), some (.box [.d (.v (.string x1.Key)), .d (.v (.int .i64 x1.At))])]⟩) ?_ ?_
      · have h := ho
        clear ho
        simp only [VW.down, Nat.reduceEqDiff, reduceCtorEq, Nat.reduceAdd, Nat.reduceLeDiff, Nat.reduceLT, Nat.reduceBEq, Nat.reduceSub, EE.down]
        refine guardD (fun g3 => ?_) (fun g3 => ?_)
        · have h := (if_pos g3).symm.trans h
          simp only [VW.down, Nat.reduceEqDiff, reduceCtorEq, Nat.reduceAdd, Nat.reduceLeDiff, Nat.reduceLT, Nat.reduceBEq, Nat.reduceSub, EE.down]
          obtain ⟨y4, hy4, h⟩ := Option.bind_eq_some_iff.1 h
          refine t_idxO (enc := eWorkItem) (xs := x0) rfl rfl rfl (by first | rfl | simp only [List.length_set] | exact (clrL_len (slI_len (by assumption))).symm) hy4 ?_
          simp only [VW.down, Nat.reduceEqDiff, reduceCtorEq, Nat.reduceAdd, Nat.reduceLeDiff, Nat.reduceLT, Nat.reduceBEq, Nat.reduceSub, EE.down]
          refine LdRow.rd (rdI_some hy4).2.1 ?_
          simp only [VW.down, Nat.reduceEqDiff, reduceCtorEq, Nat.reduceAdd, Nat.reduceLeDiff, Nat.reduceLT, Nat.reduceBEq, Nat.reduceSub, EE.down]
          obtain ⟨t5, ht5, h⟩ := Option.bind_eq_some_iff.1 h
          refine callX_n [] (F43_ok ht5) ?_ ?_ ?_ ?_ ?_ ?_
          · first | rfl | simp [nrmA, nrmC, nrm, A1.ren, C.ren, rn, List.length_set]
          · simp [liveAll, A1.live, C.live]
          · rfl
          · decide
          · exact trivial
          simp only [VW.down, Nat.reduceEqDiff, reduceCtorEq, Nat.reduceAdd, Nat.reduceLeDiff, Nat.reduceLT, Nat.reduceBEq, Nat.reduceSub, EE.down]
          obtain rfl := Option.some.inj h
          exact eM [some 0, some 1] rfl
        · have h := (if_neg g3).symm.trans h
          simp only [VW.down, Nat.reduceEqDiff, reduceCtorEq, Nat.reduceAdd, Nat.reduceLeDiff, Nat.reduceLT, Nat.reduceBEq, Nat.reduceSub, EE.down]
          obtain rfl := Option.some.inj h
          exact eM [some 0, some 1] rfl
      · rintro _ rfl
        clear ho
        simp only [VW.down, Nat.reduceEqDiff, reduceCtorEq, Nat.reduceAdd, Nat.reduceLeDiff, Nat.reduceLT, Nat.reduceBEq, Nat.reduceSub, EE.down]
        refine condB (fun c6 => ?_) (fun c6 => ?_)
        · have h := (if_pos c6).symm.trans h
          simp only [VW.down, Nat.reduceEqDiff, reduceCtorEq, Nat.reduceAdd, Nat.reduceLeDiff, Nat.reduceLT, Nat.reduceBEq, Nat.reduceSub, EE.down]
          exact eL' j [some 0, some 1] ⟨(IntKind.i64.wrap (o1_0 + 1)), rfl, h⟩ (Nat.lt_succ_self _)
        · have h := (if_neg c6).symm.trans h
          simp only [VW.down, Nat.reduceEqDiff, reduceCtorEq, Nat.reduceAdd, Nat.reduceLeDiff, Nat.reduceLT, Nat.reduceBEq, Nat.reduceSub, EE.down]
          obtain rfl := Option.some.inj h
          exact eM [some 0, some 1] rfl
  · rintro _ rfl
    clear ho
    simp only [VW.down, Nat.reduceEqDiff, reduceCtorEq, Nat.reduceAdd, Nat.reduceLeDiff, Nat.reduceLT, Nat.reduceBEq, Nat.reduceSub, EE.down]
    refine t_bslice (enc := eWorkItem) (ys := [x1]) rfl rfl (by simp [A1.cells]) rfl ?_
    simp only [VW.down, Nat.reduceEqDiff, reduceCtorEq, Nat.reduceAdd, Nat.reduceLeDiff, Nat.reduceLT, Nat.reduceBEq, Nat.reduceSub, EE.down]
    obtain ⟨t7, ht7, h⟩ := Option.bind_eq_some_iff.1 h
    refine callX_n [0, 2] (F53_ok (e0 := e0) (e1 := 0) ht7) ?_ ?_ ?_ ?_ ?_ ?_
    · first | rfl | simp [nrmA, nrmC, nrm, A1.ren, C.ren, rn, List.length_set]
    · simp [liveAll, A1.live, C.live, hp]
    · rfl
    · decide
    · exact ⟨⟨rfl, trivial⟩, ⟨⟨rfl, trivial⟩, trivial⟩⟩
    simp only [VW.down, Nat.reduceEqDiff, reduceCtorEq, Nat.reduceAdd, Nat.reduceLeDiff, Nat.reduceLT, Nat.reduceBEq, Nat.reduceSub, EE.down]
    obtain rfl := Option.some.inj h
    exact eF [some 0]

/- orchestrator/schedqueue.Retry -/
def F18 (x0 : SchedQueue) (x1 : ByteArray) (x2 : Int) (x3 : Int) : Option ((List WorkItem) × (List WorkItem) × (List WorkItem) × (List WorkItem) × (List WorkItem)) := (F39 x0.Retries x1).bind fun t1 => (F40 1 60 ((if 1000000000000000 < (IntKind.i64.wrap (t1 + 1)) then 1000000000000000 else (IntKind.i64.wrap (t1 + 1))))).bind fun t2 => (F35 x0 x1).bind fun t3 => (F41 t3.2.2.2.2 x1).bind fun t4 => (F36v1 t4 ((⟨x1, (if 1000000000000000 < (IntKind.i64.wrap (t1 + 1)) then 1000000000000000 else (IntKind.i64.wrap (t1 + 1)))⟩ : WorkItem))).bind fun t5 => (F36v2 t3.2.2.2.1 ((⟨x1, (if 1000000000000 < (IntKind.i64.wrap (((if 1000000000000 < (if x3 < 0 then 0 else x3) then 1000000000000 else (if x3 < 0 then 0 else x3))) + t2)) then 1000000000000 else (IntKind.i64.wrap (((if 1000000000000 < (if x3 < 0 then 0 else x3) then 1000000000000 else (if x3 < 0 then 0 else x3))) + t2)))⟩ : WorkItem))).bind fun t6 => (F36v1 t3.1 ((⟨x1, x2⟩ : WorkItem))).bind fun t7 => some ((t7, t3.2.1, t3.2.2.1, t6, t5))
def a18 : AFn := ⟨51, [(.cell 8 (some 6))],
 (.seq (.reg [⟨(some 4), none, .box (.t 0), [], none⟩,
   ⟨(some 8), none, .zbox [.d (.v (.slice none 0 0)), .d (.v (.slice none 0 0)), .d (.v (.slice none 0 0)), .d (.v (.slice none 0 0)), .d (.v (.slice none 0 0)), .d (.v (.int .i64 0))], [], none⟩])
 (.seq (.reg [⟨(some 11), none, .fieldA 4 (.t 4), [], none⟩,
   ⟨(some 12), none, .load none (.t 11), [], none⟩,
   ⟨(some 13), none, .mv (.t 1), [], none⟩,
   ⟨(some 14), none, .call 39 [(.t 12), (.t 13)], [], none⟩,
   ⟨(some 15), none, .bin .add (.t 14) (kI 1), [], none⟩,
   ⟨(some 16), none, .min (.t 15) (kI 1000000000000000), [], none⟩,
   ⟨(some 9), none, .mv (.t 16), [], none⟩])
 (.seq (.reg [⟨(some 17), none, .mv (.t 3), [], none⟩,
   ⟨(some 18), none, .max (.t 17) (kI 0), [], none⟩,
   ⟨(some 19), none, .min (.t 18) (kI 1000000000000), [], none⟩,
   ⟨(some 20), none, .mv (.t 9), [], none⟩,
   ⟨(some 21), none, .call 40 [(kI 1), (kI 60), (.t 20)], [], none⟩,
   ⟨(some 22), none, .bin .add (.t 19) (.t 21), [], none⟩,
   ⟨(some 23), none, .min (.t 22) (kI 1000000000000), [], none⟩,
   ⟨(some 10), none, .mv (.t 23), [], none⟩])
 (.seq (.reg [⟨(some 24), none, .load (some 6) (.t 4), [], none⟩,
   ⟨(some 25), none, .mv (.t 1), [], none⟩,
   ⟨(some 26), none, .call 35 [(.t 24), (.t 25)], [], none⟩,
   ⟨none, none, .store 6 (.t 4) (.t 26), [], none⟩])
 (.seq (.reg [⟨(some 27), none, .fieldA 4 (.t 4), [], none⟩,
   ⟨(some 28), none, .load none (.t 27), [], none⟩,
   ⟨(some 29), none, .mv (.t 1), [], none⟩,
   ⟨(some 30), none, .call 41 [(.t 28), (.t 29)], [], none⟩,
   ⟨(some 31), none, .mv (.t 1), [], none⟩,
   ⟨(some 32), none, .mv (.t 9), [], none⟩,
   ⟨(some 33), none, .build [.d (.v (.string ⟨#[]⟩)), .d (.v (.int .i64 0))] [(0, 1, (.t 31)), (1, 1, (.t 32))], [], none⟩,
   ⟨(some 34), none, .call 36 [(.t 30), (.t 33), (.f 42)], [], none⟩,
   ⟨(some 35), none, .fieldA 4 (.t 4), [], none⟩,
   ⟨none, none, .store 1 (.t 35) (.t 34), [], none⟩])
 (.seq (.reg [⟨(some 36), none, .fieldA 3 (.t 4), [], none⟩,
   ⟨(some 37), none, .load none (.t 36), [], none⟩,
   ⟨(some 38), none, .mv (.t 1), [], none⟩,
   ⟨(some 39), none, .mv (.t 10), [], none⟩,
   ⟨(some 40), none, .build [.d (.v (.string ⟨#[]⟩)), .d (.v (.int .i64 0))] [(0, 1, (.t 38)), (1, 1, (.t 39))], [], none⟩,
   ⟨(some 41), none, .call 36 [(.t 37), (.t 40), (.f 43)], [], none⟩,
   ⟨(some 42), none, .fieldA 3 (.t 4), [], none⟩,
   ⟨none, none, .store 1 (.t 42) (.t 41), [], none⟩])
 (.seq (.reg [⟨(some 43), none, .fieldA 0 (.t 4), [], none⟩,
   ⟨(some 44), none, .load none (.t 43), [], none⟩,
   ⟨(some 45), none, .mv (.t 1), [], none⟩,
   ⟨(some 46), none, .mv (.t 2), [], none⟩,
   ⟨(some 47), none, .build [.d (.v (.string ⟨#[]⟩)), .d (.v (.int .i64 0))] [(0, 1, (.t 45)), (1, 1, (.t 46))], [], none⟩,
   ⟨(some 48), none, .call 36 [(.t 44), (.t 47), (.f 42)], [], none⟩,
   ⟨(some 49), none, .fieldA 0 (.t 4), [], none⟩,
   ⟨none, none, .store 1 (.t 49) (.t 48), [], none⟩])
 (.seq (.reg [⟨(some 50), none, .load (some 6) (.t 4), [], none⟩,
   ⟨none, none, .store 6 (.t 8) (.t 50), [], (some [4])⟩])
 .ret))))))))⟩
theorem a18_ok : afn Try.prog 18 = some a18.er := by kernel_rfl
theorem F18_ok {x0 : SchedQueue} {x1 : ByteArray} {x2 : Int} {x3 : Int} {r : (List WorkItem) × (List WorkItem) × (List WorkItem) × (List WorkItem) × (List WorkItem)} (h : F18 x0 x1 x2 x3 = some r) : CallD Try.prog 18 [.agg [.d (.sl (x0.Waiting.map eWorkItem)), .d (.sl (x0.Active.map eWorkItem)), .d (.sl (x0.Stuck.map eWorkItem)), .d (.sl (x0.Backoff.map eWorkItem)), .d (.sl (x0.Retries.map eWorkItem)), .d (.v (.int .i64 x0.Cycle))], .c (.d (.v (.string x1))), .c (.d (.v (.int .i64 x2))), .c (.d (.v (.int .i64 x3)))] [] (tupV [.agg [.own 0 0 0 (r.1.length) none, .own 1 0 0 (r.2.1.length) none, .own 2 0 0 (r.2.2.1.length) none, .own 3 0 0 (r.2.2.2.1.length) none, .own 4 0 0 (r.2.2.2.2.length) none, .d (.v (.int .i64 x0.Cycle))]]) [some (.arr 0 2 (r.1.map eWorkItem)), some (.arr 0 2 (r.2.1.map eWorkItem)), some (.arr 0 2 (r.2.2.1.map eWorkItem)), some (.arr 0 2 (r.2.2.2.1.map eWorkItem)), some (.arr 0 2 (r.2.2.2.2.map eWorkItem))] := by
  refine callS a18_ok (by simp [a18]) ?_
  rw [F18] at h
  simp only [a18, VW.down, Nat.reduceEqDiff, reduceCtorEq, Nat.reduceAdd, Nat.reduceLeDiff, Nat.reduceLT, Nat.reduceBEq, Nat.reduceSub, EE.down]
  obtain ⟨t1, ht1, h⟩ := Option.bind_eq_some_iff.1 h
  refine callX_n [] (F39_ok ht1) ?_ ?_ ?_ ?_ ?_ ?_
  · first | rfl | simp [nrmA, nrmC, nrm, A1.ren, C.ren, rn, List.length_set]
  · simp [liveAll, A1.live, C.live]
  · rfl
  · decide
  · exact trivial
  simp only [VW.down, Nat.reduceEqDiff, reduceCtorEq, Nat.reduceAdd, Nat.reduceLeDiff, Nat.reduceLT, Nat.reduceBEq, Nat.reduceSub, EE.down]
  obtain ⟨t2, ht2, h⟩ := Option.bind_eq_some_iff.1 h
  refine callX_n [] (F40_ok ht2) ?_ ?_ ?_ ?_ ?_ ?_
  · first | rfl | simp [nrmA, nrmC, nrm, A1.ren, C.ren, rn, List.length_set]
  · simp [liveAll, A1.live, C.live]
  · rfl
  · decide
  · exact trivial
  simp only [VW.down, Nat.reduceEqDiff, reduceCtorEq, Nat.reduceAdd, Nat.reduceLeDiff, Nat.reduceLT, Nat.reduceBEq, Nat.reduceSub, EE.down]
  obtain ⟨t3, ht3, h⟩ := Option.bind_eq_some_iff.1 h
  refine callX_n [] (F35_ok ht3) ?_ ?_ ?_ ?_ ?_ ?_
  · first | rfl | simp [nrmA, nrmC, nrm, A1.ren, C.ren, rn, List.length_set]
  · simp [liveAll, A1.live, C.live]
  · rfl
  · decide
  · exact trivial
  simp only [VW.down, Nat.reduceEqDiff, reduceCtorEq, Nat.reduceAdd, Nat.reduceLeDiff, Nat.reduceLT, Nat.reduceBEq, Nat.reduceSub, EE.down]
  obtain ⟨t4, ht4, h⟩ := Option.bind_eq_some_iff.1 h
  refine callX_n [] (F41_ok ht4) ?_ ?_ ?_ ?_ ?_ ?_
  · first | rfl | simp [nrmA, nrmC, nrm, A1.ren, C.ren, rn, List.length_set]
  · simp [liveAll, A1.live, C.live]
  · rfl
  · decide
  · exact trivial
  simp only [VW.down, Nat.reduceEqDiff, reduceCtorEq, Nat.reduceAdd, Nat.reduceLeDiff, Nat.reduceLT, Nat.reduceBEq, Nat.reduceSub, EE.down]
  obtain ⟨t5, ht5, h⟩ := Option.bind_eq_some_iff.1 h
  refine callX_n [6] (F36v1_ok (e0 := 0) ht5) ?_ ?_ ?_ ?_ ?_ ?_
  · first | rfl | simp [nrmA, nrmC, nrm, A1.ren, C.ren, rn, List.length_set]
  · simp [liveAll, A1.live, C.live, hp]
  · rfl
  · decide
  · exact ⟨⟨rfl, trivial⟩, trivial⟩
  simp only [VW.down, Nat.reduceEqDiff, reduceCtorEq, Nat.reduceAdd, Nat.reduceLeDiff, Nat.reduceLT, Nat.reduceBEq, Nat.reduceSub, EE.down]
  obtain ⟨t6, ht6, h⟩ := Option.bind_eq_some_iff.1 h
  refine callX_n [5] (F36v2_ok (e0 := 0) ht6) ?_ ?_ ?_ ?_ ?_ ?_
  · first | rfl | simp [nrmA, nrmC, nrm, A1.ren, C.ren, rn, List.length_set]
  · simp [liveAll, A1.live, C.live, hp]
  · rfl
  · decide
  · exact ⟨⟨rfl, trivial⟩, trivial⟩
  simp only [VW.down, Nat.reduceEqDiff, reduceCtorEq, Nat.reduceAdd, Nat.reduceLeDiff, Nat.reduceLT, Nat.reduceBEq, Nat.reduceSub, EE.down]
  obtain ⟨t7, ht7, h⟩ := Option.bind_eq_some_iff.1 h
  refine callX_n [2] (F36v1_ok (e0 := 0) ht7) ?_ ?_ ?_ ?_ ?_ ?_
  · first | rfl | simp [nrmA, nrmC, nrm, A1.ren, C.ren, rn, List.length_set]
  · simp [liveAll, A1.live, C.live, hp]
  · rfl
  · decide
  · exact ⟨⟨rfl, trivial⟩, trivial⟩
  simp only [VW.down, Nat.reduceEqDiff, reduceCtorEq, Nat.reduceAdd, Nat.reduceLeDiff, Nat.reduceLT, Nat.reduceBEq, Nat.reduceSub, EE.down]
  obtain rfl := Option.some.inj h
  exact eF [some 2, some 3, some 4, some 5, some 6]

/- orchestrator/schedqueue.Advance -/
def F21_l2 (x1 : Int) : List WorkItem → Nat → (List WorkItem) → (List WorkItem) → (List WorkItem) → (List WorkItem) → (List WorkItem) → Int → Option (SchedQueue)
  | [], o2_6, o2_0, o2_1, o2_2, o2_3, o2_4, o2_5 => some ((⟨o2_0, o2_1, o2_2, o2_3, o2_4, o2_5⟩ : SchedQueue))
  | xo2 :: xs, o2_6, o2_0, o2_1, o2_2, o2_3, o2_4, o2_5 => (((if xo2.At ≤ x1 then (F39 o2_0 xo2.Key).bind fun t6 => (F15 ((⟨o2_0, o2_1, o2_2, o2_3, o2_4, o2_5⟩ : SchedQueue)) xo2.Key t6).bind fun t7 => some ((t7.1, t7.2.1, t7.2.2.1, t7.2.2.2.1, t7.2.2.2.2, ((⟨o2_0, o2_1, o2_2, o2_3, o2_4, o2_5⟩ : SchedQueue)).Cycle)) else some ((o2_0, o2_1, o2_2, o2_3, o2_4, o2_5)))).bind fun o4 => F21_l2 x1 xs (o2_6 + 1) o4.1 o4.2.1 o4.2.2.1 o4.2.2.2.1 o4.2.2.2.2.1 o4.2.2.2.2.2)
def F21 (x0 : SchedQueue) (x1 : Int) : Option (SchedQueue) := (F34 x0).bind fun t1 => (((ck (0 ≤ x0.Backoff.length ∧ x0.Backoff.length ≤ 4294967290)).bind fun u8 => F21_l2 x1 x0.Backoff 0 t1.1 t1.2.1 t1.2.2.1 t1.2.2.2.1 t1.2.2.2.2 x0.Cycle).bind fun o2 => some ((⟨(o2).Waiting, (o2).Active, (o2).Stuck, (o2).Backoff, (o2).Retries, (o2).Cycle⟩ : SchedQueue)))
def a21 : AFn := ⟨32, [(.cell 4 (some 6))],
 (.seq (.reg [⟨(some 2), none, .box (.t 0), [], none⟩,
   ⟨(some 4), none, .zbox [.d (.v (.slice none 0 0)), .d (.v (.slice none 0 0)), .d (.v (.slice none 0 0)), .d (.v (.slice none 0 0)), .d (.v (.slice none 0 0)), .d (.v (.int .i64 0))], [], none⟩])
 (.seq (.reg [⟨(some 8), none, .load (some 6) (.t 2), [], none⟩,
   ⟨(some 9), none, .call 34 [(.t 8)], [], none⟩,
   ⟨(some 5), none, .zbox [.d (.v (.slice none 0 0)), .d (.v (.slice none 0 0)), .d (.v (.slice none 0 0)), .d (.v (.slice none 0 0)), .d (.v (.slice none 0 0)), .d (.v (.int .i64 0))], [], none⟩,
   ⟨none, none, .store 6 (.t 5) (.t 9), [], none⟩])
 (.seq (.seq (.reg [⟨(some 10), none, .fieldA 3 (.t 2), [], none⟩,
   ⟨(some 11), none, .load none (.t 10), [], none⟩,
   ⟨(some 12), none, .len (.t 11), [], none⟩,
   ⟨(some 13), none, .mv (kI 0), [], none⟩])
 (.sem (.block 0 (.loop (.seq (.reg [⟨(some 14), none, .bin .lss (.t 13) (.t 12), [], none⟩])
 (.seq (.cond (.t 14)
 .skip
 (.exit 0))
 (.seq (.sem (.block 1 (.seq (.reg [⟨(some 15), none, .indexA 2 (.t 11) (.t 13), [], none⟩,
   ⟨(some 16), none, .load (some 2) (.t 15), [], none⟩,
   ⟨(some 7), none, .zbox [.d (.v (.string ⟨#[]⟩)), .d (.v (.int .i64 0))], [], none⟩,
   ⟨none, none, .store 2 (.t 7) (.t 16), [], none⟩])
 (.seq (.reg [⟨(some 17), none, .fieldA 1 (.t 7), [], none⟩,
   ⟨(some 18), none, .load none (.t 17), [], none⟩,
   ⟨(some 19), none, .mv (.t 1), [], none⟩,
   ⟨(some 20), none, .bin .leq (.t 18) (.t 19), [], none⟩])
 (.cond (.t 20)
 (.regd [⟨(some 21), none, .load (some 6) (.t 5), [], none⟩,
   ⟨(some 22), none, .fieldA 0 (.t 7), [], none⟩,
   ⟨(some 23), none, .load none (.t 22), [1], none⟩,
   ⟨(some 24), none, .fieldA 0 (.t 5), [], none⟩,
   ⟨(some 25), none, .load none (.t 24), [3], none⟩,
   ⟨(some 26), none, .fieldA 0 (.t 7), [], none⟩,
   ⟨(some 27), none, .load none (.t 26), [5], none⟩,
   ⟨(some 28), none, .call 39 [(.t 25), (.t 27)], [3, 4, 5, 6], (some [5, 7, 22])⟩,
   ⟨(some 29), none, .call 15 [(.t 21), (.t 23), (.t 28)], [0, 1, 2, 3, 4, 5, 6, 7], (some [])⟩,
   ⟨none, none, .store 6 (.t 5) (.t 29), [0, 1, 2, 3, 4, 5, 6, 7, 8], (some [])⟩])
 .skip)))))
 (.reg [⟨(some 30), none, .bin .add (.t 13) (kI 1), [], none⟩,
   ⟨(some 13), none, .mv (.t 30), [], none⟩]))))))))
 (.seq (.reg [⟨(some 31), none, .load (some 6) (.t 5), [], none⟩,
   ⟨none, none, .store 6 (.t 4) (.t 31), [], (some [5])⟩])
 .ret))))⟩
theorem a21_ok : afn Try.prog 21 = some a21.er := by kernel_rfl
theorem F21_ok {x0 : SchedQueue} {x1 : Int} {r : SchedQueue} (h : F21 x0 x1 = some r) : CallD Try.prog 21 [.agg [.d (.sl (x0.Waiting.map eWorkItem)), .d (.sl (x0.Active.map eWorkItem)), .d (.sl (x0.Stuck.map eWorkItem)), .d (.sl (x0.Backoff.map eWorkItem)), .d (.sl (x0.Retries.map eWorkItem)), .d (.v (.int .i64 x0.Cycle))], .c (.d (.v (.int .i64 x1)))] [] (tupV [.agg [.d (.sl (((r).Waiting).map eWorkItem)), .d (.sl (((r).Active).map eWorkItem)), .d (.sl (((r).Stuck).map eWorkItem)), .d (.sl (((r).Backoff).map eWorkItem)), .d (.sl (((r).Retries).map eWorkItem)), .d (.v (.int .i64 ((r).Cycle)))]]) [] := by
  refine callS a21_ok (by simp [a21]) ?_
  rw [F21] at h
  simp only [a21, VW.down, Nat.reduceEqDiff, reduceCtorEq, Nat.reduceAdd, Nat.reduceLeDiff, Nat.reduceLT, Nat.reduceBEq, Nat.reduceSub, EE.down]
  obtain ⟨t1, ht1, h⟩ := Option.bind_eq_some_iff.1 h
  refine callX_n [] (F34_ok ht1) ?_ ?_ ?_ ?_ ?_ ?_
  · first | rfl | simp [nrmA, nrmC, nrm, A1.ren, C.ren, rn, List.length_set]
  · simp [liveAll, A1.live, C.live]
  · rfl
  · decide
  · exact trivial
  simp only [VW.down, Nat.reduceEqDiff, reduceCtorEq, Nat.reduceAdd, Nat.reduceLeDiff, Nat.reduceLT, Nat.reduceBEq, Nat.reduceSub, EE.down]
  obtain ⟨o2, ho, h⟩ := Option.bind_eq_some_iff.1 h
  refine cutS (fun s => s = ⟨[(4, .one (.c (.pt 0 0))), (5, .one (.c (.pt 1 0)))], [some (.box [.d (.v (.slice none 0 0)), .d (.v (.slice none 0 0)), .d (.v (.slice none 0 0)), .d (.v (.slice none 0 0)), .d (.v (.slice none 0 0)), .d (.v (.int .i64 0))]), some (.box [.d (.sl (((o2).Waiting).map eWorkItem)), .d (.sl (((o2).Active).map eWorkItem)), .d (.sl (((o2).Stuck).map eWorkItem)), .d (.sl (((o2).Backoff).map eWorkItem)), .d (.sl (((o2).Retries).map eWorkItem)), .d (.v (.int .i64 ((o2).Cycle)))])]⟩) ?_ ?_
  · have h := ho
    clear ho
    obtain ⟨_, hk, h⟩ := Option.bind_eq_some_iff.1 h
    have hk := ck_some hk
    simp only [VW.down, Nat.reduceEqDiff, reduceCtorEq, Nat.reduceAdd, Nat.reduceLeDiff, Nat.reduceLT, Nat.reduceBEq, Nat.reduceSub, EE.down]
    refine bL (fun j s => ∃ (o2_6 : Nat) (o2_0 : List WorkItem) (o2_1 : List WorkItem) (o2_2 : List WorkItem) (o2_3 : List WorkItem) (o2_4 : List WorkItem) (o2_5 : Int), (o2_6 ≤ x0.Backoff.length ∧ j = x0.Backoff.length - o2_6) ∧ s = ⟨[(1, .one (.c (.d (.v (.int .i64 x1))))), (4, .one (.c (.pt 0 0))), (5, .one (.c (.pt 1 0))), (11, .one (.c (.d (.sl (x0.Backoff.map eWorkItem))))), (12, .one (.c (.d (.v (.int .i64 ((x0.Backoff.length : Int))))))), (13, .one (.c (.d (.v (.int .i64 ((o2_6 : Int)))))))], [some (.box [.d (.v (.slice none 0 0)), .d (.v (.slice none 0 0)), .d (.v (.slice none 0 0)), .d (.v (.slice none 0 0)), .d (.v (.slice none 0 0)), .d (.v (.int .i64 0))]), some (.box [.d (.sl (o2_0.map eWorkItem)), .d (.sl (o2_1.map eWorkItem)), .d (.sl (o2_2.map eWorkItem)), .d (.sl (o2_3.map eWorkItem)), .d (.sl (o2_4.map eWorkItem)), .d (.v (.int .i64 o2_5))])]⟩ ∧ F21_l2 x1 (x0.Backoff.drop o2_6) o2_6 o2_0 o2_1 o2_2 o2_3 o2_4 o2_5 = some o2) (x0.Backoff.length - 0) [some 1, some 7] ⟨0, t1.1, t1.2.1, t1.2.2.1, t1.2.2.2.1, t1.2.2.2.2, x0.Cycle, ⟨hk.1, rfl⟩, rfl, h⟩ ?_
    rintro _ _ ⟨o2_6, o2_0, o2_1, o2_2, o2_3, o2_4, o2_5, ⟨hi, rfl⟩, rfl, h⟩
    simp only [VW.down, Nat.reduceEqDiff, reduceCtorEq, Nat.reduceAdd, Nat.reduceLeDiff, Nat.reduceLT, Nat.reduceBEq, Nat.reduceSub, EE.down]
    refine condS (fun c3 => ?_) (fun c3 => ?_)
    · obtain ⟨xo2, hxo2, hd⟩ := countY c3
      rw [hd, F21_l2] at h
      simp only [VW.down, Nat.reduceEqDiff, reduceCtorEq, Nat.reduceAdd, Nat.reduceLeDiff, Nat.reduceLT, Nat.reduceBEq, Nat.reduceSub, EE.down]
      obtain ⟨o4, ho, h⟩ := Option.bind_eq_some_iff.1 h
      refine cutS (fun s => s = ⟨[(1, .one (.c (.d (.v (.int .i64 x1))))), (4, .one (.c (.pt 0 0))), (5, .one (.c (.pt 1 0))), (11, .one (.c (.d (.sl (x0.Backoff.map eWorkItem))))), (12, .one (.c (.d (.v (.int .i64 ((x0.Backoff.length : Int))))))), (13, .one (.c (.d (.v (.int .i64 ((o2_6 : Int)))))))], [some (.box [.d (.v (.slice none 0 0)), .d (.v (.slice none 0 0)), .d (.v (.slice none 0 0)), .d (.v (.slice none 0 0)), .d (.v (.slice none 0 0)), .d (.v (.int .i64 0))]), some (.box [.d (.sl (o4.1.map eWorkItem)), .d (.sl (o4.2.1.map eWorkItem)), .d (.sl (o4.2.2.1.map eWorkItem)), .d (.sl (o4.2.2.2.1.map eWorkItem)), .d (.sl (o4.2.2.2.2.1.map eWorkItem)), .d (.v (.int .i64 o4.2.2.2.2.2))])]⟩) ?_ ?_
      · have h := ho
        clear ho
        simp only [VW.down, Nat.reduceEqDiff, reduceCtorEq, Nat.reduceAdd, Nat.reduceLeDiff, Nat.reduceLT, Nat.reduceBEq, Nat.reduceSub, EE.down]
        refine t_idxF (enc := eWorkItem) (xs := x0.Backoff) rfl rfl hxo2 rfl ?_
        simp only [VW.down, Nat.reduceEqDiff, reduceCtorEq, Nat.reduceAdd, Nat.reduceLeDiff, Nat.reduceLT, Nat.reduceBEq, Nat.reduceSub, EE.down]
        refine condS (fun c5 => ?_) (fun c5 => ?_)
        · have h := (if_pos c5).symm.trans h
          simp only [VW.down, Nat.reduceEqDiff, reduceCtorEq, Nat.reduceAdd, Nat.reduceLeDiff, Nat.reduceLT, Nat.reduceBEq, Nat.reduceSub, EE.down]
          obtain ⟨t6, ht6, h⟩ := Option.bind_eq_some_iff.1 h
          refine callX_n [] (F39_ok ht6) ?_ ?_ ?_ ?_ ?_ ?_
          · first | rfl | simp [nrmA, nrmC, nrm, A1.ren, C.ren, rn, List.length_set]
          · simp [liveAll, A1.live, C.live]
          · rfl
          · decide
          · exact trivial
          simp only [VW.down, Nat.reduceEqDiff, reduceCtorEq, Nat.reduceAdd, Nat.reduceLeDiff, Nat.reduceLT, Nat.reduceBEq, Nat.reduceSub, EE.down]
          obtain ⟨t7, ht7, h⟩ := Option.bind_eq_some_iff.1 h
          refine callX_n [] (F15_ok ht7) ?_ ?_ ?_ ?_ ?_ ?_
          · first | rfl | simp [nrmA, nrmC, nrm, A1.ren, C.ren, rn, List.length_set]
          · simp [liveAll, A1.live, C.live]
          · rfl
          · decide
          · exact trivial
          simp only [VW.down, Nat.reduceEqDiff, reduceCtorEq, Nat.reduceAdd, Nat.reduceLeDiff, Nat.reduceLT, Nat.reduceBEq, Nat.reduceSub, EE.down]
          obtain rfl := Option.some.inj h
          exact eM [some 0, some 1] rfl
        · have h := (if_neg c5).symm.trans h
          simp only [VW.down, Nat.reduceEqDiff, reduceCtorEq, Nat.reduceAdd, Nat.reduceLeDiff, Nat.reduceLT, Nat.reduceBEq, Nat.reduceSub, EE.down]
          obtain rfl := Option.some.inj h
          exact eM [some 0, some 1] rfl
      · rintro _ rfl
        clear ho
        simp only [VW.down, Nat.reduceEqDiff, reduceCtorEq, Nat.reduceAdd, Nat.reduceLeDiff, Nat.reduceLT, Nat.reduceBEq, Nat.reduceSub, EE.down]
        rw [wrapN (by omega)]
        exact eL' (x0.Backoff.length - (o2_6 + 1)) [some 0, some 1] ⟨o2_6 + 1, o4.1, o4.2.1, o4.2.2.1, o4.2.2.2.1, o4.2.2.2.2.1, o4.2.2.2.2.2, ⟨by omega, rfl⟩, rfl, h⟩ (by omega)
    · rw [countN c3, F21_l2] at h
      simp only [VW.down, Nat.reduceEqDiff, reduceCtorEq, Nat.reduceAdd, Nat.reduceLeDiff, Nat.reduceLT, Nat.reduceBEq, Nat.reduceSub, EE.down]
      obtain rfl := Option.some.inj h
      exact eM [some 0, some 1] rfl
  · rintro _ rfl
    clear ho
    simp only [VW.down, Nat.reduceEqDiff, reduceCtorEq, Nat.reduceAdd, Nat.reduceLeDiff, Nat.reduceLT, Nat.reduceBEq, Nat.reduceSub, EE.down]
    obtain rfl := Option.some.inj h
    exact eF []

/- orchestrator/schedqueue.Stuck -/
def F23 (x0 : SchedQueue) (x1 : ByteArray) (x2 : Int) : Option ((List WorkItem) × (List WorkItem) × (List WorkItem) × (List WorkItem) × ((List WorkItem))) := (F35 x0 x1).bind fun t1 => (apI t1.2.2.1 ([(⟨x1, x2⟩ : WorkItem)])).bind fun a2 => some ((t1.1, t1.2.1, a2, t1.2.2.2.1, t1.2.2.2.2))
def a23 : AFn := ⟨19, [(.cell 6 (some 6))],
 (.seq (.reg [⟨(some 3), none, .box (.t 0), [], none⟩,
   ⟨(some 6), none, .zbox [.d (.v (.slice none 0 0)), .d (.v (.slice none 0 0)), .d (.v (.slice none 0 0)), .d (.v (.slice none 0 0)), .d (.v (.slice none 0 0)), .d (.v (.int .i64 0))], [], none⟩])
 (.seq (.reg [⟨(some 7), none, .load (some 6) (.t 3), [], none⟩,
   ⟨(some 8), none, .mv (.t 1), [], none⟩,
   ⟨(some 9), none, .call 35 [(.t 7), (.t 8)], [], none⟩,
   ⟨none, none, .store 6 (.t 3) (.t 9), [], none⟩])
 (.seq (.reg [⟨(some 10), none, .fieldA 2 (.t 3), [], none⟩,
   ⟨(some 11), none, .load none (.t 10), [], none⟩,
   ⟨(some 12), none, .mv (.t 1), [], none⟩,
   ⟨(some 13), none, .mv (.t 2), [], none⟩,
   ⟨(some 14), none, .build [.d (.v (.string ⟨#[]⟩)), .d (.v (.int .i64 0))] [(0, 1, (.t 12)), (1, 1, (.t 13))], [], none⟩,
   ⟨(some 15), none, .bslice 2 [(.t 14)], [], none⟩,
   ⟨(some 16), none, .app 2 24 (.t 11) (.t 15), [], none⟩,
   ⟨(some 17), none, .fieldA 2 (.t 3), [], none⟩,
   ⟨none, none, .store 1 (.t 17) (.t 16), [], none⟩])
 (.seq (.reg [⟨(some 18), none, .load (some 6) (.t 3), [], none⟩,
   ⟨none, none, .store 6 (.t 6) (.t 18), [], (some [3])⟩])
 .ret))))⟩
theorem a23_ok : afn Try.prog 23 = some a23.er := by kernel_rfl
theorem F23_ok {x0 : SchedQueue} {x1 : ByteArray} {x2 : Int} {r : (List WorkItem) × (List WorkItem) × (List WorkItem) × (List WorkItem) × ((List WorkItem))} (h : F23 x0 x1 x2 = some r) : CallD Try.prog 23 [.agg [.d (.sl (x0.Waiting.map eWorkItem)), .d (.sl (x0.Active.map eWorkItem)), .d (.sl (x0.Stuck.map eWorkItem)), .d (.sl (x0.Backoff.map eWorkItem)), .d (.sl (x0.Retries.map eWorkItem)), .d (.v (.int .i64 x0.Cycle))], .c (.d (.v (.string x1))), .c (.d (.v (.int .i64 x2)))] [] (tupV [.agg [.own 0 0 0 (r.1.length) none, .own 1 0 0 (r.2.1.length) none, .own 2 0 0 (r.2.2.1.length) none, .own 3 0 0 (r.2.2.2.1.length) none, .d (.sl (r.2.2.2.2.map eWorkItem)), .d (.v (.int .i64 x0.Cycle))]]) [some (.arr 0 2 (r.1.map eWorkItem)), some (.arr 0 2 (r.2.1.map eWorkItem)), some (.arr 0 2 (r.2.2.1.map eWorkItem)), some (.arr 0 2 (r.2.2.2.1.map eWorkItem))] := by
  refine callS a23_ok (by simp [a23]) ?_
  rw [F23] at h
  simp only [a23, VW.down, Nat.reduceEqDiff, reduceCtorEq, Nat.reduceAdd, Nat.reduceLeDiff, Nat.reduceLT, Nat.reduceBEq, Nat.reduceSub, EE.down]
  obtain ⟨t1, ht1, h⟩ := Option.bind_eq_some_iff.1 h
  refine callX_n [] (F35_ok ht1) ?_ ?_ ?_ ?_ ?_ ?_
  · first | rfl | simp [nrmA, nrmC, nrm, A1.ren, C.ren, rn, List.length_set]
  · simp [liveAll, A1.live, C.live]
  · rfl
  · decide
  · exact trivial
  simp only [VW.down, Nat.reduceEqDiff, reduceCtorEq, Nat.reduceAdd, Nat.reduceLeDiff, Nat.reduceLT, Nat.reduceBEq, Nat.reduceSub, EE.down]
  refine t_bslice (enc := eWorkItem) (ys := [(⟨x1, x2⟩ : WorkItem)]) rfl rfl (by simp [A1.cells]) rfl ?_
  simp only [VW.down, Nat.reduceEqDiff, reduceCtorEq, Nat.reduceAdd, Nat.reduceLeDiff, Nat.reduceLT, Nat.reduceBEq, Nat.reduceSub, EE.down]
  obtain ⟨a2, ha2, h⟩ := Option.bind_eq_some_iff.1 h
  refine t_app (enc := eWorkItem) (xs := t1.2.2.1) rfl rfl (by first | rfl | simp only [List.length_set] | exact (clrL_len (slI_len (by assumption))).symm) rfl (rows_full (enc := eWorkItem) (by first | rfl | simp only [List.length_set] | exact (clrL_len (slI_len (by assumption))).symm) rfl) ha2 ?_
  simp only [VW.down, Nat.reduceEqDiff, reduceCtorEq, Nat.reduceAdd, Nat.reduceLeDiff, Nat.reduceLT, Nat.reduceBEq, Nat.reduceSub, EE.down]
  obtain rfl := Option.some.inj h
  exact eF [some 2, some 3, some 4, some 5]

/- orchestrator/schedqueue.Wake -/
def F22_l2  : List WorkItem → Nat → (List WorkItem) → (List WorkItem) → (List WorkItem) → (List WorkItem) → (List WorkItem) → Int → Option (SchedQueue)
  | [], o2_6, o2_0, o2_1, o2_2, o2_3, o2_4, o2_5 => some ((⟨o2_0, o2_1, o2_2, o2_3, o2_4, o2_5⟩ : SchedQueue))
  | xo2 :: xs, o2_6, o2_0, o2_1, o2_2, o2_3, o2_4, o2_5 => (F15 ((⟨o2_0, o2_1, o2_2, o2_3, o2_4, o2_5⟩ : SchedQueue)) xo2.Key xo2.At).bind fun t4 => F22_l2  xs (o2_6 + 1) t4.1 t4.2.1 t4.2.2.1 t4.2.2.2.1 t4.2.2.2.2 (((⟨o2_0, o2_1, o2_2, o2_3, o2_4, o2_5⟩ : SchedQueue)).Cycle)
def F22 (x0 : SchedQueue) : Option (SchedQueue) := (F34 x0).bind fun t1 => (((ck (0 ≤ x0.Stuck.length ∧ x0.Stuck.length ≤ 4294967290)).bind fun u5 => F22_l2 x0.Stuck 0 t1.1 t1.2.1 t1.2.2.1 t1.2.2.2.1 t1.2.2.2.2 x0.Cycle).bind fun o2 => some ((⟨(o2).Waiting, (o2).Active, (o2).Stuck, (o2).Backoff, (o2).Retries, (o2).Cycle⟩ : SchedQueue)))
def a22 : AFn := ⟨23, [(.cell 2 (some 6))],
 (.seq (.reg [⟨(some 1), none, .box (.t 0), [], none⟩,
   ⟨(some 2), none, .zbox [.d (.v (.slice none 0 0)), .d (.v (.slice none 0 0)), .d (.v (.slice none 0 0)), .d (.v (.slice none 0 0)), .d (.v (.slice none 0 0)), .d (.v (.int .i64 0))], [], none⟩])
 (.seq (.reg [⟨(some 6), none, .load (some 6) (.t 1), [], none⟩,
   ⟨(some 7), none, .call 34 [(.t 6)], [], none⟩,
   ⟨(some 3), none, .zbox [.d (.v (.slice none 0 0)), .d (.v (.slice none 0 0)), .d (.v (.slice none 0 0)), .d (.v (.slice none 0 0)), .d (.v (.slice none 0 0)), .d (.v (.int .i64 0))], [], none⟩,
   ⟨none, none, .store 6 (.t 3) (.t 7), [], none⟩])
 (.seq (.seq (.reg [⟨(some 8), none, .fieldA 2 (.t 1), [], none⟩,
   ⟨(some 9), none, .load none (.t 8), [], none⟩,
   ⟨(some 10), none, .len (.t 9), [], none⟩,
   ⟨(some 11), none, .mv (kI 0), [], none⟩])
 (.sem (.block 0 (.loop (.seq (.reg [⟨(some 12), none, .bin .lss (.t 11) (.t 10), [], none⟩])
 (.seq (.cond (.t 12)
 .skip
 (.exit 0))
 (.seq (.block 1 (.seq (.reg [⟨(some 13), none, .indexA 2 (.t 9) (.t 11), [], none⟩,
   ⟨(some 14), none, .load (some 2) (.t 13), [], none⟩,
   ⟨(some 5), none, .zbox [.d (.v (.string ⟨#[]⟩)), .d (.v (.int .i64 0))], [], none⟩,
   ⟨none, none, .store 2 (.t 5) (.t 14), [], none⟩])
 (.reg [⟨(some 15), none, .load (some 6) (.t 3), [], none⟩,
   ⟨(some 16), none, .fieldA 0 (.t 5), [], none⟩,
   ⟨(some 17), none, .load none (.t 16), [], none⟩,
   ⟨(some 18), none, .fieldA 1 (.t 5), [], none⟩,
   ⟨(some 19), none, .load none (.t 18), [], none⟩,
   ⟨(some 20), none, .call 15 [(.t 15), (.t 17), (.t 19)], [], none⟩,
   ⟨none, none, .store 6 (.t 3) (.t 20), [], none⟩])))
 (.reg [⟨(some 21), none, .bin .add (.t 11) (kI 1), [], none⟩,
   ⟨(some 11), none, .mv (.t 21), [], none⟩]))))))))
 (.seq (.reg [⟨(some 22), none, .load (some 6) (.t 3), [], none⟩,
   ⟨none, none, .store 6 (.t 2) (.t 22), [], (some [3])⟩])
 .ret))))⟩
theorem a22_ok : afn Try.prog 22 = some a22.er := by kernel_rfl
theorem F22_ok {x0 : SchedQueue} {r : SchedQueue} (h : F22 x0 = some r) : CallD Try.prog 22 [.agg [.d (.sl (x0.Waiting.map eWorkItem)), .d (.sl (x0.Active.map eWorkItem)), .d (.sl (x0.Stuck.map eWorkItem)), .d (.sl (x0.Backoff.map eWorkItem)), .d (.sl (x0.Retries.map eWorkItem)), .d (.v (.int .i64 x0.Cycle))]] [] (tupV [.agg [.d (.sl (((r).Waiting).map eWorkItem)), .d (.sl (((r).Active).map eWorkItem)), .d (.sl (((r).Stuck).map eWorkItem)), .d (.sl (((r).Backoff).map eWorkItem)), .d (.sl (((r).Retries).map eWorkItem)), .d (.v (.int .i64 ((r).Cycle)))]]) [] := by
  refine callS a22_ok (by simp [a22]) ?_
  rw [F22] at h
  simp only [a22, VW.down, Nat.reduceEqDiff, reduceCtorEq, Nat.reduceAdd, Nat.reduceLeDiff, Nat.reduceLT, Nat.reduceBEq, Nat.reduceSub, EE.down]
  obtain ⟨t1, ht1, h⟩ := Option.bind_eq_some_iff.1 h
  refine callX_n [] (F34_ok ht1) ?_ ?_ ?_ ?_ ?_ ?_
  · first | rfl | simp [nrmA, nrmC, nrm, A1.ren, C.ren, rn, List.length_set]
  · simp [liveAll, A1.live, C.live]
  · rfl
  · decide
  · exact trivial
  simp only [VW.down, Nat.reduceEqDiff, reduceCtorEq, Nat.reduceAdd, Nat.reduceLeDiff, Nat.reduceLT, Nat.reduceBEq, Nat.reduceSub, EE.down]
  obtain ⟨o2, ho, h⟩ := Option.bind_eq_some_iff.1 h
  refine cutS (fun s => s = ⟨[(2, .one (.c (.pt 0 0))), (3, .one (.c (.pt 1 0)))], [some (.box [.d (.v (.slice none 0 0)), .d (.v (.slice none 0 0)), .d (.v (.slice none 0 0)), .d (.v (.slice none 0 0)), .d (.v (.slice none 0 0)), .d (.v (.int .i64 0))]), some (.box [.d (.sl (((o2).Waiting).map eWorkItem)), .d (.sl (((o2).Active).map eWorkItem)), .d (.sl (((o2).Stuck).map eWorkItem)), .d (.sl (((o2).Backoff).map eWorkItem)), .d (.sl (((o2).Retries).map eWorkItem)), .d (.v (.int .i64 ((o2).Cycle)))])]⟩) ?_ ?_
  · have h := ho
    clear ho
    obtain ⟨_, hk, h⟩ := Option.bind_eq_some_iff.1 h
    have hk := ck_some hk
    simp only [VW.down, Nat.reduceEqDiff, reduceCtorEq, Nat.reduceAdd, Nat.reduceLeDiff, Nat.reduceLT, Nat.reduceBEq, Nat.reduceSub, EE.down]
    refine bL (fun j s => ∃ (o2_6 : Nat) (o2_0 : List WorkItem) (o2_1 : List WorkItem) (o2_2 : List WorkItem) (o2_3 : List WorkItem) (o2_4 : List WorkItem) (o2_5 : Int), (o2_6 ≤ x0.Stuck.length ∧ j = x0.Stuck.length - o2_6) ∧ s = ⟨[(2, .one (.c (.pt 0 0))), (3, .one (.c (.pt 1 0))), (9, .one (.c (.d (.sl (x0.Stuck.map eWorkItem))))), (10, .one (.c (.d (.v (.int .i64 ((x0.Stuck.length : Int))))))), (11, .one (.c (.d (.v (.int .i64 ((o2_6 : Int)))))))], [some (.box [.d (.v (.slice none 0 0)), .d (.v (.slice none 0 0)), .d (.v (.slice none 0 0)), .d (.v (.slice none 0 0)), .d (.v (.slice none 0 0)), .d (.v (.int .i64 0))]), some (.box [.d (.sl (o2_0.map eWorkItem)), .d (.sl (o2_1.map eWorkItem)), .d (.sl (o2_2.map eWorkItem)), .d (.sl (o2_3.map eWorkItem)), .d (.sl (o2_4.map eWorkItem)), .d (.v (.int .i64 o2_5))])]⟩ ∧ F22_l2 (x0.Stuck.drop o2_6) o2_6 o2_0 o2_1 o2_2 o2_3 o2_4 o2_5 = some o2) (x0.Stuck.length - 0) [some 1, some 7] ⟨0, t1.1, t1.2.1, t1.2.2.1, t1.2.2.2.1, t1.2.2.2.2, x0.Cycle, ⟨hk.1, rfl⟩, rfl, h⟩ ?_
    rintro _ _ ⟨o2_6, o2_0, o2_1, o2_2, o2_3, o2_4, o2_5, ⟨hi, rfl⟩, rfl, h⟩
    simp only [VW.down, Nat.reduceEqDiff, reduceCtorEq, Nat.reduceAdd, Nat.reduceLeDiff, Nat.reduceLT, Nat.reduceBEq, Nat.reduceSub, EE.down]
    refine condS (fun c3 => ?_) (fun c3 => ?_)
    · obtain ⟨xo2, hxo2, hd⟩ := countY c3
      rw [hd, F22_l2] at h
      simp only [VW.down, Nat.reduceEqDiff, reduceCtorEq, Nat.reduceAdd, Nat.reduceLeDiff, Nat.reduceLT, Nat.reduceBEq, Nat.reduceSub, EE.down]
      refine t_idxF (enc := eWorkItem) (xs := x0.Stuck) rfl rfl hxo2 rfl ?_
      simp only [VW.down, Nat.reduceEqDiff, reduceCtorEq, Nat.reduceAdd, Nat.reduceLeDiff, Nat.reduceLT, Nat.reduceBEq, Nat.reduceSub, EE.down]
      obtain ⟨t4, ht4, h⟩ := Option.bind_eq_some_iff.1 h
      refine callX_n [] (F15_ok ht4) ?_ ?_ ?_ ?_ ?_ ?_
      · first | rfl | simp [nrmA, nrmC, nrm, A1.ren, C.ren, rn, List.length_set]
      · simp [liveAll, A1.live, C.live]
      · rfl
      · decide
      · exact trivial
      simp only [VW.down, Nat.reduceEqDiff, reduceCtorEq, Nat.reduceAdd, Nat.reduceLeDiff, Nat.reduceLT, Nat.reduceBEq, Nat.reduceSub, EE.down]
      rw [wrapN (by omega)]
      exact eL' (x0.Stuck.length - (o2_6 + 1)) [some 0, some 1] ⟨o2_6 + 1, t4.1, t4.2.1, t4.2.2.1, t4.2.2.2.1, t4.2.2.2.2, ((⟨o2_0, o2_1, o2_2, o2_3, o2_4, o2_5⟩ : SchedQueue)).Cycle, ⟨by omega, rfl⟩, rfl, h⟩ (by omega)
    · rw [countN c3, F22_l2] at h
      simp only [VW.down, Nat.reduceEqDiff, reduceCtorEq, Nat.reduceAdd, Nat.reduceLeDiff, Nat.reduceLT, Nat.reduceBEq, Nat.reduceSub, EE.down]
      obtain rfl := Option.some.inj h
      exact eM [some 0, some 1] rfl
  · rintro _ rfl
    clear ho
    simp only [VW.down, Nat.reduceEqDiff, reduceCtorEq, Nat.reduceAdd, Nat.reduceLeDiff, Nat.reduceLT, Nat.reduceBEq, Nat.reduceSub, EE.down]
    obtain rfl := Option.some.inj h
    exact eF []

/- orchestrator/schedqueue.Remove -/
def F24 (x0 : SchedQueue) (x1 : ByteArray) : Option ((List WorkItem) × (List WorkItem) × (List WorkItem) × (List WorkItem) × (List WorkItem)) := (F35 x0 x1).bind fun t1 => (F41 t1.2.2.2.2 x1).bind fun t2 => some ((t1.1, t1.2.1, t1.2.2.1, t1.2.2.2.1, t2))
def a24 : AFn := ⟨14, [(.cell 4 (some 6))],
 (.seq (.reg [⟨(some 2), none, .box (.t 0), [], none⟩,
   ⟨(some 4), none, .zbox [.d (.v (.slice none 0 0)), .d (.v (.slice none 0 0)), .d (.v (.slice none 0 0)), .d (.v (.slice none 0 0)), .d (.v (.slice none 0 0)), .d (.v (.int .i64 0))], [], none⟩])
 (.seq (.reg [⟨(some 5), none, .load (some 6) (.t 2), [], none⟩,
   ⟨(some 6), none, .mv (.t 1), [], none⟩,
   ⟨(some 7), none, .call 35 [(.t 5), (.t 6)], [], none⟩,
   ⟨none, none, .store 6 (.t 2) (.t 7), [], none⟩])
 (.seq (.reg [⟨(some 8), none, .fieldA 4 (.t 2), [], none⟩,
   ⟨(some 9), none, .load none (.t 8), [], none⟩,
   ⟨(some 10), none, .mv (.t 1), [], none⟩,
   ⟨(some 11), none, .call 41 [(.t 9), (.t 10)], [], none⟩,
   ⟨(some 12), none, .fieldA 4 (.t 2), [], none⟩,
   ⟨none, none, .store 1 (.t 12) (.t 11), [], none⟩])
 (.seq (.reg [⟨(some 13), none, .load (some 6) (.t 2), [], none⟩,
   ⟨none, none, .store 6 (.t 4) (.t 13), [], (some [2])⟩])
 .ret))))⟩
theorem a24_ok : afn Try.prog 24 = some a24.er := by kernel_rfl
theorem F24_ok {x0 : SchedQueue} {x1 : ByteArray} {r : (List WorkItem) × (List WorkItem) × (List WorkItem) × (List WorkItem) × (List WorkItem)} (h : F24 x0 x1 = some r) : CallD Try.prog 24 [.agg [.d (.sl (x0.Waiting.map eWorkItem)), .d (.sl (x0.Active.map eWorkItem)), .d (.sl (x0.Stuck.map eWorkItem)), .d (.sl (x0.Backoff.map eWorkItem)), .d (.sl (x0.Retries.map eWorkItem)), .d (.v (.int .i64 x0.Cycle))], .c (.d (.v (.string x1)))] [] (tupV [.agg [.own 0 0 0 (r.1.length) none, .own 1 0 0 (r.2.1.length) none, .own 2 0 0 (r.2.2.1.length) none, .own 3 0 0 (r.2.2.2.1.length) none, .own 4 0 0 (r.2.2.2.2.length) none, .d (.v (.int .i64 x0.Cycle))]]) [some (.arr 0 2 (r.1.map eWorkItem)), some (.arr 0 2 (r.2.1.map eWorkItem)), some (.arr 0 2 (r.2.2.1.map eWorkItem)), some (.arr 0 2 (r.2.2.2.1.map eWorkItem)), some (.arr 0 2 (r.2.2.2.2.map eWorkItem))] := by
  refine callS a24_ok (by simp [a24]) ?_
  rw [F24] at h
  simp only [a24, VW.down, Nat.reduceEqDiff, reduceCtorEq, Nat.reduceAdd, Nat.reduceLeDiff, Nat.reduceLT, Nat.reduceBEq, Nat.reduceSub, EE.down]
  obtain ⟨t1, ht1, h⟩ := Option.bind_eq_some_iff.1 h
  refine callX_n [] (F35_ok ht1) ?_ ?_ ?_ ?_ ?_ ?_
  · first | rfl | simp [nrmA, nrmC, nrm, A1.ren, C.ren, rn, List.length_set]
  · simp [liveAll, A1.live, C.live]
  · rfl
  · decide
  · exact trivial
  simp only [VW.down, Nat.reduceEqDiff, reduceCtorEq, Nat.reduceAdd, Nat.reduceLeDiff, Nat.reduceLT, Nat.reduceBEq, Nat.reduceSub, EE.down]
  obtain ⟨t2, ht2, h⟩ := Option.bind_eq_some_iff.1 h
  refine callX_n [] (F41_ok ht2) ?_ ?_ ?_ ?_ ?_ ?_
  · first | rfl | simp [nrmA, nrmC, nrm, A1.ren, C.ren, rn, List.length_set]
  · simp [liveAll, A1.live, C.live]
  · rfl
  · decide
  · exact trivial
  simp only [VW.down, Nat.reduceEqDiff, reduceCtorEq, Nat.reduceAdd, Nat.reduceLeDiff, Nat.reduceLT, Nat.reduceBEq, Nat.reduceSub, EE.down]
  obtain rfl := Option.some.inj h
  exact eF [some 2, some 3, some 4, some 5, some 6]

/- orchestrator/orchestratorlaw42.lives -/
def F8  : Option (Bool) := (((F9).bind fun t2 => (F15 ((⟨[], [], [], [], [], 0⟩ : SchedQueue)) ((⟨#[97]⟩ : ByteArray)) 0).bind fun t3 => (F15 ((⟨t3.1, t3.2.1, t3.2.2.1, t3.2.2.2.1, t3.2.2.2.2, ((⟨[], [], [], [], [], 0⟩ : SchedQueue)).Cycle⟩ : SchedQueue)) ((⟨#[98]⟩ : ByteArray)) 10).bind fun t4 => (F15 ((⟨t4.1, t4.2.1, t4.2.2.1, t4.2.2.2.1, t4.2.2.2.2, ((⟨t3.1, t3.2.1, t3.2.2.1, t3.2.2.2.1, t3.2.2.2.2, ((⟨[], [], [], [], [], 0⟩ : SchedQueue)).Cycle⟩ : SchedQueue)).Cycle⟩ : SchedQueue)) ((⟨#[99]⟩ : ByteArray)) 0).bind fun t5 => some ((t5.1, t5.2.1, t5.2.2.1, t5.2.2.2.1, t5.2.2.2.2, ((⟨t4.1, t4.2.1, t4.2.2.1, t4.2.2.2.1, t4.2.2.2.2, ((⟨t3.1, t3.2.1, t3.2.2.1, t3.2.2.2.1, t3.2.2.2.2, ((⟨[], [], [], [], [], 0⟩ : SchedQueue)).Cycle⟩ : SchedQueue)).Cycle⟩ : SchedQueue)).Cycle))).bind fun o1 => (((F17 ((⟨o1.1, o1.2.1, o1.2.2.1, o1.2.2.2.1, o1.2.2.2.2.1, o1.2.2.2.2.2⟩ : SchedQueue))).bind fun t7 => some ((t7.1, t7.2.1, t7.2.2.1, t7.2.2.2.1, t7.2.2.2.2.1, t7.2.2.2.2.2.1, t7.2.2.2.2.2.2.1, t7.2.2.2.2.2.2.2))).bind fun o6 => (((F17 ((⟨o6.1, o6.2.1, o6.2.2.1, o6.2.2.2.1, o6.2.2.2.2.1, o6.2.2.2.2.2.1⟩ : SchedQueue))).bind fun t9 => some ((t9.1, t9.2.1, t9.2.2.1, t9.2.2.2.1, t9.2.2.2.2.1, t9.2.2.2.2.2.1, t9.2.2.2.2.2.2.1, t9.2.2.2.2.2.2.2))).bind fun o8 => (((F18 ((⟨o8.1, o8.2.1, o8.2.2.1, o8.2.2.2.1, o8.2.2.2.2.1, o8.2.2.2.2.2.1⟩ : SchedQueue)) ((⟨#[97]⟩ : ByteArray)) 0 100).bind fun t11 => (F18 ((⟨t11.1, t11.2.1, t11.2.2.1, t11.2.2.2.1, t11.2.2.2.2, ((⟨o8.1, o8.2.1, o8.2.2.1, o8.2.2.2.1, o8.2.2.2.2.1, o8.2.2.2.2.2.1⟩ : SchedQueue)).Cycle⟩ : SchedQueue)) ((⟨#[97]⟩ : ByteArray)) 0 100).bind fun t12 => some ((t12.1, t12.2.1, t12.2.2.1, t12.2.2.2.1, t12.2.2.2.2, ((⟨t11.1, t11.2.1, t11.2.2.1, t11.2.2.2.1, t11.2.2.2.2, ((⟨o8.1, o8.2.1, o8.2.2.1, o8.2.2.2.1, o8.2.2.2.2.1, o8.2.2.2.2.2.1⟩ : SchedQueue)).Cycle⟩ : SchedQueue)).Cycle))).bind fun o10 => (((if ¬ ((o10.2.2.2.1.length : Int) = 1) then some true else (rdI o10.2.2.2.1 0).bind fun y15 => (if ¬ (y15.At = 102) then some true else (F21 ((⟨o10.1, o10.2.1, o10.2.2.1, o10.2.2.2.1, o10.2.2.2.2.1, o10.2.2.2.2.2⟩ : SchedQueue)) 101).bind fun t17 => some (decide (¬ ((((t17).Active).length : Int) = 1)))))).bind fun o13 => (if o13 = true then some false else (F21 ((⟨o10.1, o10.2.1, o10.2.2.1, o10.2.2.2.1, o10.2.2.2.2.1, o10.2.2.2.2.2⟩ : SchedQueue)) 102).bind fun t19 => (F23 ((⟨(t19).Waiting, (t19).Active, (t19).Stuck, (t19).Backoff, (t19).Retries, (t19).Cycle⟩ : SchedQueue)) ((⟨#[100]⟩ : ByteArray)) 5).bind fun t20 => (F22 ((⟨t20.1, t20.2.1, t20.2.2.1, t20.2.2.2.1, t20.2.2.2.2, ((⟨(t19).Waiting, (t19).Active, (t19).Stuck, (t19).Backoff, (t19).Retries, (t19).Cycle⟩ : SchedQueue)).Cycle⟩ : SchedQueue))).bind fun t21 => (((if o6.2.2.2.2.2.2.2 = true then (if o8.2.2.2.2.2.2.2 = true then (if o6.2.2.2.2.2.2.1 = (⟨#[98]⟩ : ByteArray) then (if o8.2.2.2.2.2.2.1 = (⟨#[97]⟩ : ByteArray) then (if (((t21).Active).length : Int) = 3 then (rdI ((t21).Active) 0).bind fun y28 => (if y28.Key = (⟨#[100]⟩ : ByteArray) then (if (((t21).Stuck).length : Int) = 0 then (F24 ((⟨(t21).Waiting, (t21).Active, (t21).Stuck, (t21).Backoff, (t21).Retries, (t21).Cycle⟩ : SchedQueue)) ((⟨#[97]⟩ : ByteArray))).bind fun t31 => some (decide ((t31.2.2.2.2.length : Int) = 0)) else some false) else some false) else some false) else some false) else some false) else some false) else some false)).bind fun o22 => some o22)))))))
def a8 : AFn := ⟨88, [(.tmp 0)],
 (.seq (.reg [⟨(some 0), none, .mv (kB false), [], none⟩])
 (.seq (.sem (.reg [⟨(some 7), none, .call 9 [], [], none⟩,
   ⟨(some 8), none, .call 15 [(.t 7), (kS ⟨#[97]⟩), (kI 0)], [], none⟩,
   ⟨(some 9), none, .call 15 [(.t 8), (kS ⟨#[98]⟩), (kI 10)], [], none⟩,
   ⟨(some 10), none, .call 15 [(.t 9), (kS ⟨#[99]⟩), (kI 0)], [], none⟩,
   ⟨(some 1), none, .zbox [.d (.v (.slice none 0 0)), .d (.v (.slice none 0 0)), .d (.v (.slice none 0 0)), .d (.v (.slice none 0 0)), .d (.v (.slice none 0 0)), .d (.v (.int .i64 0))], [], none⟩,
   ⟨none, none, .store 6 (.t 1) (.t 10), [], none⟩]))
 (.seq (.sem (.reg [⟨(some 12), none, .load (some 6) (.t 1), [], none⟩,
   ⟨(some 13), none, .call 17 [(.t 12)], [], none⟩,
   ⟨(some 11), none, .mv (.t 13), [], none⟩,
   ⟨(some 14), none, .ext (.t 11) 0, [], none⟩,
   ⟨(some 15), none, .ext (.t 11) 1, [], none⟩,
   ⟨(some 16), none, .ext (.t 11) 2, [], none⟩,
   ⟨none, none, .store 6 (.t 1) (.t 14), [], none⟩,
   ⟨(some 2), none, .mv (.t 15), [], none⟩,
   ⟨(some 3), none, .mv (.t 16), [], none⟩]))
 (.seq (.sem (.reg [⟨(some 18), none, .load (some 6) (.t 1), [], none⟩,
   ⟨(some 19), none, .call 17 [(.t 18)], [], none⟩,
   ⟨(some 17), none, .mv (.t 19), [], none⟩,
   ⟨(some 20), none, .ext (.t 17) 0, [], none⟩,
   ⟨(some 21), none, .ext (.t 17) 1, [], none⟩,
   ⟨(some 22), none, .ext (.t 17) 2, [], none⟩,
   ⟨none, none, .store 6 (.t 1) (.t 20), [], none⟩,
   ⟨(some 4), none, .mv (.t 21), [], none⟩,
   ⟨(some 5), none, .mv (.t 22), [], none⟩]))
 (.seq (.sem (.reg [⟨(some 23), none, .load (some 6) (.t 1), [], none⟩,
   ⟨(some 24), none, .call 18 [(.t 23), (kS ⟨#[97]⟩), (kI 0), (kI 100)], [], none⟩,
   ⟨(some 25), none, .call 18 [(.t 24), (kS ⟨#[97]⟩), (kI 0), (kI 100)], [], none⟩,
   ⟨none, none, .store 6 (.t 1) (.t 25), [], none⟩]))
 (.seq (.seq (.sem (.reg [⟨(some 26), none, .fieldA 3 (.t 1), [], none⟩,
   ⟨(some 27), none, .load none (.t 26), [], none⟩,
   ⟨(some 28), none, .len (.t 27), [], none⟩,
   ⟨(some 29), none, .bin .neq (.t 28) (kI 1), [], none⟩,
   ⟨(some 30), none, .mv (.t 29), [], none⟩,
   ⟨(some 31), (some (30, false)), .fieldA 3 (.t 1), [], none⟩,
   ⟨(some 32), (some (30, false)), .load none (.t 31), [], none⟩,
   ⟨(some 33), (some (30, false)), .indexA 2 (.t 32) (kI 0), [], none⟩,
   ⟨(some 34), (some (30, false)), .fieldA 1 (.t 33), [], none⟩,
   ⟨(some 35), (some (30, false)), .load none (.t 34), [], none⟩,
   ⟨(some 36), (some (30, false)), .bin .neq (.t 35) (kI 102), [], none⟩,
   ⟨(some 37), none, .pick (.t 30) (kB true) (.t 36), [], none⟩,
   ⟨(some 38), none, .mv (.t 37), [], none⟩,
   ⟨(some 39), (some (38, false)), .load (some 6) (.t 1), [], none⟩,
   ⟨(some 40), (some (38, false)), .call 21 [(.t 39), (kI 101)], [], none⟩,
   ⟨(some 41), (some (38, false)), .field 1 none (.t 40), [], none⟩,
   ⟨(some 42), (some (38, false)), .len (.t 41), [], none⟩,
   ⟨(some 43), (some (38, false)), .bin .neq (.t 42) (kI 1), [], none⟩,
   ⟨(some 44), none, .pick (.t 38) (kB true) (.t 43), [], none⟩]))
 (.cond (.t 44)
 (.seq (.reg [⟨(some 0), none, .mv (kB false), [], none⟩])
 .ret)
 .skip))
 (.seq (.reg [⟨(some 45), none, .load (some 6) (.t 1), [], none⟩,
   ⟨(some 46), none, .call 21 [(.t 45), (kI 102)], [], none⟩,
   ⟨(some 47), none, .call 23 [(.t 46), (kS ⟨#[100]⟩), (kI 5)], [], none⟩,
   ⟨(some 48), none, .call 22 [(.t 47)], [], none⟩,
   ⟨(some 6), none, .zbox [.d (.v (.slice none 0 0)), .d (.v (.slice none 0 0)), .d (.v (.slice none 0 0)), .d (.v (.slice none 0 0)), .d (.v (.slice none 0 0)), .d (.v (.int .i64 0))], [], none⟩,
   ⟨none, none, .store 6 (.t 6) (.t 48), [], none⟩])
 (.seq (.sem (.reg [⟨(some 49), none, .mv (.t 3), [], none⟩,
   ⟨(some 50), none, .mv (.t 49), [], none⟩,
   ⟨(some 51), (some (50, true)), .mv (.t 5), [], none⟩,
   ⟨(some 52), none, .pick (.t 50) (.t 51) (kB false), [], none⟩,
   ⟨(some 53), none, .mv (.t 52), [], none⟩,
   ⟨(some 54), (some (53, true)), .mv (.t 2), [], none⟩,
   ⟨(some 55), (some (53, true)), .bin .eql (.t 54) (kS ⟨#[98]⟩), [], none⟩,
   ⟨(some 56), none, .pick (.t 53) (.t 55) (kB false), [], none⟩,
   ⟨(some 57), none, .mv (.t 56), [], none⟩,
   ⟨(some 58), (some (57, true)), .mv (.t 4), [], none⟩,
   ⟨(some 59), (some (57, true)), .bin .eql (.t 58) (kS ⟨#[97]⟩), [], none⟩,
   ⟨(some 60), none, .pick (.t 57) (.t 59) (kB false), [], none⟩,
   ⟨(some 61), none, .mv (.t 60), [], none⟩,
   ⟨(some 62), (some (61, true)), .fieldA 1 (.t 6), [], none⟩,
   ⟨(some 63), (some (61, true)), .load none (.t 62), [], none⟩,
   ⟨(some 64), (some (61, true)), .len (.t 63), [], none⟩,
   ⟨(some 65), (some (61, true)), .bin .eql (.t 64) (kI 3), [], none⟩,
   ⟨(some 66), none, .pick (.t 61) (.t 65) (kB false), [], none⟩,
   ⟨(some 67), none, .mv (.t 66), [], none⟩,
   ⟨(some 68), (some (67, true)), .fieldA 1 (.t 6), [], none⟩,
   ⟨(some 69), (some (67, true)), .load none (.t 68), [], none⟩,
   ⟨(some 70), (some (67, true)), .indexA 2 (.t 69) (kI 0), [], none⟩,
   ⟨(some 71), (some (67, true)), .fieldA 0 (.t 70), [], none⟩,
   ⟨(some 72), (some (67, true)), .load none (.t 71), [], none⟩,
   ⟨(some 73), (some (67, true)), .bin .eql (.t 72) (kS ⟨#[100]⟩), [], none⟩,
   ⟨(some 74), none, .pick (.t 67) (.t 73) (kB false), [], none⟩,
   ⟨(some 75), none, .mv (.t 74), [], none⟩,
   ⟨(some 76), (some (75, true)), .fieldA 2 (.t 6), [], none⟩,
   ⟨(some 77), (some (75, true)), .load none (.t 76), [], none⟩,
   ⟨(some 78), (some (75, true)), .len (.t 77), [], none⟩,
   ⟨(some 79), (some (75, true)), .bin .eql (.t 78) (kI 0), [], none⟩,
   ⟨(some 80), none, .pick (.t 75) (.t 79) (kB false), [], none⟩,
   ⟨(some 81), none, .mv (.t 80), [], none⟩,
   ⟨(some 82), (some (81, true)), .load (some 6) (.t 6), [], none⟩,
   ⟨(some 83), (some (81, true)), .call 24 [(.t 82), (kS ⟨#[97]⟩)], [], none⟩,
   ⟨(some 84), (some (81, true)), .field 4 none (.t 83), [], none⟩,
   ⟨(some 85), (some (81, true)), .len (.t 84), [], none⟩,
   ⟨(some 86), (some (81, true)), .bin .eql (.t 85) (kI 0), [], none⟩,
   ⟨(some 87), none, .pick (.t 81) (.t 86) (kB false), [], none⟩,
   ⟨(some 0), none, .mv (.t 87), [], none⟩]))
 .ret))))))))⟩
theorem a8_ok : afn Try.prog 8 = some a8.er := by kernel_rfl
theorem F8_ok {r : Bool} (h : F8 = some r) : CallD Try.prog 8 [] [] (tupV [.c (.d (.v (.bool r)))]) [] := by
  refine callS a8_ok (by simp [a8]) ?_
  rw [F8] at h
  simp only [a8, VW.down, Nat.reduceEqDiff, reduceCtorEq, Nat.reduceAdd, Nat.reduceLeDiff, Nat.reduceLT, Nat.reduceBEq, Nat.reduceSub, EE.down]
  obtain ⟨o1, ho, h⟩ := Option.bind_eq_some_iff.1 h
  refine cutS (fun s => s = ⟨[(1, .one (.c (.pt 0 0)))], [some (.box [.d (.sl (o1.1.map eWorkItem)), .d (.sl (o1.2.1.map eWorkItem)), .d (.sl (o1.2.2.1.map eWorkItem)), .d (.sl (o1.2.2.2.1.map eWorkItem)), .d (.sl (o1.2.2.2.2.1.map eWorkItem)), .d (.v (.int .i64 o1.2.2.2.2.2))])]⟩) ?_ ?_
  · have h := ho
    clear ho
    simp only [VW.down, Nat.reduceEqDiff, reduceCtorEq, Nat.reduceAdd, Nat.reduceLeDiff, Nat.reduceLT, Nat.reduceBEq, Nat.reduceSub, EE.down]
    obtain ⟨t2, ht2, h⟩ := Option.bind_eq_some_iff.1 h
    refine callX_n [] (F9_ok ht2) ?_ ?_ ?_ ?_ ?_ ?_
    · first | rfl | simp [nrmA, nrmC, nrm, A1.ren, C.ren, rn, List.length_set]
    · simp [liveAll, A1.live, C.live]
    · rfl
    · decide
    · exact trivial
    simp only [VW.down, Nat.reduceEqDiff, reduceCtorEq, Nat.reduceAdd, Nat.reduceLeDiff, Nat.reduceLT, Nat.reduceBEq, Nat.reduceSub, EE.down]
    obtain ⟨t3, ht3, h⟩ := Option.bind_eq_some_iff.1 h
    refine callX_n [] (F15_ok ht3) ?_ ?_ ?_ ?_ ?_ ?_
    · first | rfl | simp [nrmA, nrmC, nrm, A1.ren, C.ren, rn, List.length_set]
    · simp [liveAll, A1.live, C.live]
    · rfl
    · decide
    · exact trivial
    simp only [VW.down, Nat.reduceEqDiff, reduceCtorEq, Nat.reduceAdd, Nat.reduceLeDiff, Nat.reduceLT, Nat.reduceBEq, Nat.reduceSub, EE.down]
    obtain ⟨t4, ht4, h⟩ := Option.bind_eq_some_iff.1 h
    refine callX_gen (as1 := [.agg [.d (.sl (t3.1.map eWorkItem)), .d (.sl (t3.2.1.map eWorkItem)), .d (.sl (t3.2.2.1.map eWorkItem)), .d (.sl (t3.2.2.2.1.map eWorkItem)), .d (.sl (t3.2.2.2.2.map eWorkItem)), .d (.v (.int .i64 (((⟨[], [], [], [], [], 0⟩ : SchedQueue)).Cycle)))], .c (.d (.v (.string ((⟨#[98]⟩ : ByteArray))))), .c (.d (.v (.int .i64 10)))]) [(0, .arr 1 2 []), (1, .arr 1 2 []), (2, .arr 1 2 []), (3, .arr 1 2 [])] [none, none, none, none] [] (F15_ok ht4) ⟨?_, rfl, ?_⟩ ?_ ?_ ?_ ?_ ?_ ?_ ?_ ?_
    · simp only [ZZ.down, Nat.reduceEqDiff, reduceCtorEq, Nat.reduceAdd, Nat.reduceLeDiff, Nat.reduceLT, Nat.reduceBNe, EE.down]
    · simp only [ZZ.down, Nat.reduceEqDiff, reduceCtorEq, Nat.reduceAdd, Nat.reduceLeDiff, Nat.reduceLT, Nat.reduceBNe, EE.down]
    · simp only [ZZ.down, Nat.reduceEqDiff, reduceCtorEq, Nat.reduceAdd, Nat.reduceLeDiff, Nat.reduceLT, Nat.reduceBNe, EE.down]
    · rfl
    · rfl
    · simp [liveAll, A1.live, C.live]
    · rfl
    · decide
    · exact trivial
    simp only [VW.down, Nat.reduceEqDiff, reduceCtorEq, Nat.reduceAdd, Nat.reduceLeDiff, Nat.reduceLT, Nat.reduceBEq, Nat.reduceSub, EE.down]
    obtain ⟨t5, ht5, h⟩ := Option.bind_eq_some_iff.1 h
    refine callX_gen (as1 := [.agg [.d (.sl (t4.1.map eWorkItem)), .d (.sl (t4.2.1.map eWorkItem)), .d (.sl (t4.2.2.1.map eWorkItem)), .d (.sl (t4.2.2.2.1.map eWorkItem)), .d (.sl (t4.2.2.2.2.map eWorkItem)), .d (.v (.int .i64 (((⟨t3.1, t3.2.1, t3.2.2.1, t3.2.2.2.1, t3.2.2.2.2, ((⟨[], [], [], [], [], 0⟩ : SchedQueue)).Cycle⟩ : SchedQueue)).Cycle)))], .c (.d (.v (.string ((⟨#[99]⟩ : ByteArray))))), .c (.d (.v (.int .i64 0)))]) [(4, .arr 1 2 []), (5, .arr 1 2 []), (6, .arr 1 2 []), (7, .arr 1 2 [])] [some 0, some 1, some 2, some 3, none, none, none, none] [] (F15_ok ht5) ⟨?_, rfl, ?_⟩ ?_ ?_ ?_ ?_ ?_ ?_ ?_ ?_
    · simp only [ZZ.down, Nat.reduceEqDiff, reduceCtorEq, Nat.reduceAdd, Nat.reduceLeDiff, Nat.reduceLT, Nat.reduceBNe, EE.down]
    · simp only [ZZ.down, Nat.reduceEqDiff, reduceCtorEq, Nat.reduceAdd, Nat.reduceLeDiff, Nat.reduceLT, Nat.reduceBNe, EE.down]
    · simp only [ZZ.down, Nat.reduceEqDiff, reduceCtorEq, Nat.reduceAdd, Nat.reduceLeDiff, Nat.reduceLT, Nat.reduceBNe, EE.down]
    · rfl
    · rfl
    · simp [liveAll, A1.live, C.live]
    · rfl
    · decide
    · exact trivial
    simp only [VW.down, Nat.reduceEqDiff, reduceCtorEq, Nat.reduceAdd, Nat.reduceLeDiff, Nat.reduceLT, Nat.reduceBEq, Nat.reduceSub, EE.down]
    obtain rfl := Option.some.inj h
    exact eM [some 12] rfl
  · rintro _ rfl
    clear ho
    simp only [VW.down, Nat.reduceEqDiff, reduceCtorEq, Nat.reduceAdd, Nat.reduceLeDiff, Nat.reduceLT, Nat.reduceBEq, Nat.reduceSub, EE.down]
    obtain ⟨o6, ho, h⟩ := Option.bind_eq_some_iff.1 h
    refine cutS (fun s => s = ⟨[(1, .one (.c (.pt 0 0))), (2, .one (.c (.d (.v (.string o6.2.2.2.2.2.2.1))))), (3, .one (.c (.d (.v (.bool o6.2.2.2.2.2.2.2)))))], [some (.box [.d (.sl (o6.1.map eWorkItem)), .d (.sl (o6.2.1.map eWorkItem)), .d (.sl (o6.2.2.1.map eWorkItem)), .d (.sl (o6.2.2.2.1.map eWorkItem)), .d (.sl (o6.2.2.2.2.1.map eWorkItem)), .d (.v (.int .i64 o6.2.2.2.2.2.1))])]⟩) ?_ ?_
    · have h := ho
      clear ho
      simp only [VW.down, Nat.reduceEqDiff, reduceCtorEq, Nat.reduceAdd, Nat.reduceLeDiff, Nat.reduceLT, Nat.reduceBEq, Nat.reduceSub, EE.down]
      obtain ⟨t7, ht7, h⟩ := Option.bind_eq_some_iff.1 h
      refine callX_n [] (F17_ok ht7) ?_ ?_ ?_ ?_ ?_ ?_
      · first | rfl | simp [nrmA, nrmC, nrm, A1.ren, C.ren, rn, List.length_set]
      · simp [liveAll, A1.live, C.live]
      · rfl
      · decide
      · exact trivial
      simp only [VW.down, Nat.reduceEqDiff, reduceCtorEq, Nat.reduceAdd, Nat.reduceLeDiff, Nat.reduceLT, Nat.reduceBEq, Nat.reduceSub, EE.down]
      obtain rfl := Option.some.inj h
      exact eM [some 0] rfl
    · rintro _ rfl
      clear ho
      simp only [VW.down, Nat.reduceEqDiff, reduceCtorEq, Nat.reduceAdd, Nat.reduceLeDiff, Nat.reduceLT, Nat.reduceBEq, Nat.reduceSub, EE.down]
      obtain ⟨o8, ho, h⟩ := Option.bind_eq_some_iff.1 h
      refine cutS (fun s => s = ⟨[(1, .one (.c (.pt 0 0))), (2, .one (.c (.d (.v (.string o6.2.2.2.2.2.2.1))))), (3, .one (.c (.d (.v (.bool o6.2.2.2.2.2.2.2))))), (4, .one (.c (.d (.v (.string o8.2.2.2.2.2.2.1))))), (5, .one (.c (.d (.v (.bool o8.2.2.2.2.2.2.2)))))], [some (.box [.d (.sl (o8.1.map eWorkItem)), .d (.sl (o8.2.1.map eWorkItem)), .d (.sl (o8.2.2.1.map eWorkItem)), .d (.sl (o8.2.2.2.1.map eWorkItem)), .d (.sl (o8.2.2.2.2.1.map eWorkItem)), .d (.v (.int .i64 o8.2.2.2.2.2.1))])]⟩) ?_ ?_
      · have h := ho
        clear ho
        simp only [VW.down, Nat.reduceEqDiff, reduceCtorEq, Nat.reduceAdd, Nat.reduceLeDiff, Nat.reduceLT, Nat.reduceBEq, Nat.reduceSub, EE.down]
        obtain ⟨t9, ht9, h⟩ := Option.bind_eq_some_iff.1 h
        refine callX_n [] (F17_ok ht9) ?_ ?_ ?_ ?_ ?_ ?_
        · first | rfl | simp [nrmA, nrmC, nrm, A1.ren, C.ren, rn, List.length_set]
        · simp [liveAll, A1.live, C.live]
        · rfl
        · decide
        · exact trivial
        simp only [VW.down, Nat.reduceEqDiff, reduceCtorEq, Nat.reduceAdd, Nat.reduceLeDiff, Nat.reduceLT, Nat.reduceBEq, Nat.reduceSub, EE.down]
        obtain rfl := Option.some.inj h
        exact eM [some 0] rfl
      · rintro _ rfl
        clear ho
        simp only [VW.down, Nat.reduceEqDiff, reduceCtorEq, Nat.reduceAdd, Nat.reduceLeDiff, Nat.reduceLT, Nat.reduceBEq, Nat.reduceSub, EE.down]
        obtain ⟨o10, ho, h⟩ := Option.bind_eq_some_iff.1 h
        refine cutS (fun s => s = ⟨[(1, .one (.c (.pt 0 0))), (2, .one (.c (.d (.v (.string o6.2.2.2.2.2.2.1))))), (3, .one (.c (.d (.v (.bool o6.2.2.2.2.2.2.2))))), (4, .one (.c (.d (.v (.string o8.2.2.2.2.2.2.1))))), (5, .one (.c (.d (.v (.bool o8.2.2.2.2.2.2.2)))))], [some (.box [.d (.sl (o10.1.map eWorkItem)), .d (.sl (o10.2.1.map eWorkItem)), .d (.sl (o10.2.2.1.map eWorkItem)), .d (.sl (o10.2.2.2.1.map eWorkItem)), .d (.sl (o10.2.2.2.2.1.map eWorkItem)), .d (.v (.int .i64 o10.2.2.2.2.2))])]⟩) ?_ ?_
        · have h := ho
          clear ho
          simp only [VW.down, Nat.reduceEqDiff, reduceCtorEq, Nat.reduceAdd, Nat.reduceLeDiff, Nat.reduceLT, Nat.reduceBEq, Nat.reduceSub, EE.down]
          obtain ⟨t11, ht11, h⟩ := Option.bind_eq_some_iff.1 h
          refine callX_n [] (F18_ok ht11) ?_ ?_ ?_ ?_ ?_ ?_
          · first | rfl | simp [nrmA, nrmC, nrm, A1.ren, C.ren, rn, List.length_set]
          · simp [liveAll, A1.live, C.live]
          · rfl
          · decide
          · exact trivial
          simp only [VW.down, Nat.reduceEqDiff, reduceCtorEq, Nat.reduceAdd, Nat.reduceLeDiff, Nat.reduceLT, Nat.reduceBEq, Nat.reduceSub, EE.down]
          obtain ⟨t12, ht12, h⟩ := Option.bind_eq_some_iff.1 h
          refine callX_gen (as1 := [.agg [.d (.sl (t11.1.map eWorkItem)), .d (.sl (t11.2.1.map eWorkItem)), .d (.sl (t11.2.2.1.map eWorkItem)), .d (.sl (t11.2.2.2.1.map eWorkItem)), .d (.sl (t11.2.2.2.2.map eWorkItem)), .d (.v (.int .i64 (((⟨o8.1, o8.2.1, o8.2.2.1, o8.2.2.2.1, o8.2.2.2.2.1, o8.2.2.2.2.2.1⟩ : SchedQueue)).Cycle)))], .c (.d (.v (.string ((⟨#[97]⟩ : ByteArray))))), .c (.d (.v (.int .i64 0))), .c (.d (.v (.int .i64 100)))]) [(1, .arr 1 2 []), (2, .arr 1 2 []), (3, .arr 1 2 []), (4, .arr 1 2 []), (5, .arr 1 2 [])] [some 0, none, none, none, none, none] [] (F18_ok ht12) ⟨?_, rfl, ?_⟩ ?_ ?_ ?_ ?_ ?_ ?_ ?_ ?_
          · simp only [ZZ.down, Nat.reduceEqDiff, reduceCtorEq, Nat.reduceAdd, Nat.reduceLeDiff, Nat.reduceLT, Nat.reduceBNe, EE.down]
          · simp only [ZZ.down, Nat.reduceEqDiff, reduceCtorEq, Nat.reduceAdd, Nat.reduceLeDiff, Nat.reduceLT, Nat.reduceBNe, EE.down]
          · simp only [ZZ.down, Nat.reduceEqDiff, reduceCtorEq, Nat.reduceAdd, Nat.reduceLeDiff, Nat.reduceLT, Nat.reduceBNe, EE.down]
          · rfl
          · rfl
          · simp [liveAll, A1.live, C.live]
          · rfl
          · decide
          · exact trivial
          simp only [VW.down, Nat.reduceEqDiff, reduceCtorEq, Nat.reduceAdd, Nat.reduceLeDiff, Nat.reduceLT, Nat.reduceBEq, Nat.reduceSub, EE.down]
          obtain rfl := Option.some.inj h
          exact eM [some 0] rfl
        · rintro _ rfl
          clear ho
          simp only [VW.down, Nat.reduceEqDiff, reduceCtorEq, Nat.reduceAdd, Nat.reduceLeDiff, Nat.reduceLT, Nat.reduceBEq, Nat.reduceSub, EE.down]
          obtain ⟨o13, ho, h⟩ := Option.bind_eq_some_iff.1 h
          refine cutS (fun s => s = ⟨[(1, .one (.c (.pt 0 0))), (2, .one (.c (.d (.v (.string o6.2.2.2.2.2.2.1))))), (3, .one (.c (.d (.v (.bool o6.2.2.2.2.2.2.2))))), (4, .one (.c (.d (.v (.string o8.2.2.2.2.2.2.1))))), (5, .one (.c (.d (.v (.bool o8.2.2.2.2.2.2.2))))), (44, .one (.c (.d (.v (.bool o13)))))], [some (.box [.d (.sl (o10.1.map eWorkItem)), .d (.sl (o10.2.1.map eWorkItem)), .d (.sl (o10.2.2.1.map eWorkItem)), .d (.sl (o10.2.2.2.1.map eWorkItem)), .d (.sl (o10.2.2.2.2.1.map eWorkItem)), .d (.v (.int .i64 o10.2.2.2.2.2))])]⟩) ?_ ?_
          · have h := ho
            clear ho
            simp only [VW.down, Nat.reduceEqDiff, reduceCtorEq, Nat.reduceAdd, Nat.reduceLeDiff, Nat.reduceLT, Nat.reduceBEq, Nat.reduceSub, EE.down]
            refine guardS (fun g14 => ?_) (fun g14 => ?_)
            · have h := (if_pos g14).symm.trans h
              simp only [VW.down, Nat.reduceEqDiff, reduceCtorEq, Nat.reduceAdd, Nat.reduceLeDiff, Nat.reduceLT, Nat.reduceBEq, Nat.reduceSub, EE.down]
              obtain rfl := Option.some.inj h
              exact eM [some 0] rfl
            · have h := (if_neg g14).symm.trans h
              simp only [VW.down, Nat.reduceEqDiff, reduceCtorEq, Nat.reduceAdd, Nat.reduceLeDiff, Nat.reduceLT, Nat.reduceBEq, Nat.reduceSub, EE.down]
              obtain ⟨y15, hy15, h⟩ := Option.bind_eq_some_iff.1 h
              refine t_idxF (enc := eWorkItem) (xs := o10.2.2.2.1) rfl rfl hy15 rfl ?_
              simp only [VW.down, Nat.reduceEqDiff, reduceCtorEq, Nat.reduceAdd, Nat.reduceLeDiff, Nat.reduceLT, Nat.reduceBEq, Nat.reduceSub, EE.down]
              refine guardS (fun g16 => ?_) (fun g16 => ?_)
              · have h := (if_pos g16).symm.trans h
                simp only [VW.down, Nat.reduceEqDiff, reduceCtorEq, Nat.reduceAdd, Nat.reduceLeDiff, Nat.reduceLT, Nat.reduceBEq, Nat.reduceSub, EE.down]
                obtain rfl := Option.some.inj h
                exact eM [some 0] rfl
              · have h := (if_neg g16).symm.trans h
                simp only [VW.down, Nat.reduceEqDiff, reduceCtorEq, Nat.reduceAdd, Nat.reduceLeDiff, Nat.reduceLT, Nat.reduceBEq, Nat.reduceSub, EE.down]
                obtain ⟨t17, ht17, h⟩ := Option.bind_eq_some_iff.1 h
                refine callX_n [] (F21_ok ht17) ?_ ?_ ?_ ?_ ?_ ?_
                · first | rfl | simp [nrmA, nrmC, nrm, A1.ren, C.ren, rn, List.length_set]
                · simp [liveAll, A1.live, C.live]
                · rfl
                · decide
                · exact trivial
                simp only [VW.down, Nat.reduceEqDiff, reduceCtorEq, Nat.reduceAdd, Nat.reduceLeDiff, Nat.reduceLT, Nat.reduceBEq, Nat.reduceSub, EE.down]
                obtain rfl := Option.some.inj h
                exact eM [some 0] rfl
          · rintro _ rfl
            clear ho
            simp only [VW.down, Nat.reduceEqDiff, reduceCtorEq, Nat.reduceAdd, Nat.reduceLeDiff, Nat.reduceLT, Nat.reduceBEq, Nat.reduceSub, EE.down]
            refine condB (fun c18 => ?_) (fun c18 => ?_)
            · have h := (if_pos c18).symm.trans h
              simp only [VW.down, Nat.reduceEqDiff, reduceCtorEq, Nat.reduceAdd, Nat.reduceLeDiff, Nat.reduceLT, Nat.reduceBEq, Nat.reduceSub, EE.down]
              obtain rfl := Option.some.inj h
              exact eF []
            · have h := (if_neg c18).symm.trans h
              simp only [VW.down, Nat.reduceEqDiff, reduceCtorEq, Nat.reduceAdd, Nat.reduceLeDiff, Nat.reduceLT, Nat.reduceBEq, Nat.reduceSub, EE.down]
              obtain ⟨t19, ht19, h⟩ := Option.bind_eq_some_iff.1 h
              refine callX_n [] (F21_ok ht19) ?_ ?_ ?_ ?_ ?_ ?_
              · first | rfl | simp [nrmA, nrmC, nrm, A1.ren, C.ren, rn, List.length_set]
              · simp [liveAll, A1.live, C.live]
              · rfl
              · decide
              · exact trivial
              simp only [VW.down, Nat.reduceEqDiff, reduceCtorEq, Nat.reduceAdd, Nat.reduceLeDiff, Nat.reduceLT, Nat.reduceBEq, Nat.reduceSub, EE.down]
              obtain ⟨t20, ht20, h⟩ := Option.bind_eq_some_iff.1 h
              refine callX_n [] (F23_ok ht20) ?_ ?_ ?_ ?_ ?_ ?_
              · first | rfl | simp [nrmA, nrmC, nrm, A1.ren, C.ren, rn, List.length_set]
              · simp [liveAll, A1.live, C.live]
              · rfl
              · decide
              · exact trivial
              simp only [VW.down, Nat.reduceEqDiff, reduceCtorEq, Nat.reduceAdd, Nat.reduceLeDiff, Nat.reduceLT, Nat.reduceBEq, Nat.reduceSub, EE.down]
              obtain ⟨t21, ht21, h⟩ := Option.bind_eq_some_iff.1 h
              refine callX_gen (as1 := [.agg [.d (.sl (t20.1.map eWorkItem)), .d (.sl (t20.2.1.map eWorkItem)), .d (.sl (t20.2.2.1.map eWorkItem)), .d (.sl (t20.2.2.2.1.map eWorkItem)), .d (.sl (t20.2.2.2.2.map eWorkItem)), .d (.v (.int .i64 (((⟨(t19).Waiting, (t19).Active, (t19).Stuck, (t19).Backoff, (t19).Retries, (t19).Cycle⟩ : SchedQueue)).Cycle)))]]) [(1, .arr 1 2 []), (2, .arr 1 2 []), (3, .arr 1 2 []), (4, .arr 1 2 [])] [some 0, none, none, none, none] [] (F22_ok ht21) ⟨?_, rfl, ?_⟩ ?_ ?_ ?_ ?_ ?_ ?_ ?_ ?_
              · simp only [ZZ.down, Nat.reduceEqDiff, reduceCtorEq, Nat.reduceAdd, Nat.reduceLeDiff, Nat.reduceLT, Nat.reduceBNe, EE.down]
              · simp only [ZZ.down, Nat.reduceEqDiff, reduceCtorEq, Nat.reduceAdd, Nat.reduceLeDiff, Nat.reduceLT, Nat.reduceBNe, EE.down]
              · simp only [ZZ.down, Nat.reduceEqDiff, reduceCtorEq, Nat.reduceAdd, Nat.reduceLeDiff, Nat.reduceLT, Nat.reduceBNe, EE.down]
              · rfl
              · rfl
              · simp [liveAll, A1.live, C.live]
              · rfl
              · decide
              · exact trivial
              simp only [VW.down, Nat.reduceEqDiff, reduceCtorEq, Nat.reduceAdd, Nat.reduceLeDiff, Nat.reduceLT, Nat.reduceBEq, Nat.reduceSub, EE.down]
              obtain ⟨o22, ho, h⟩ := Option.bind_eq_some_iff.1 h
              refine cutS (fun s => s = ⟨[(0, .one (.c (.d (.v (.bool o22)))))], []⟩) ?_ ?_
              · have h := ho
                clear ho
                simp only [VW.down, Nat.reduceEqDiff, reduceCtorEq, Nat.reduceAdd, Nat.reduceLeDiff, Nat.reduceLT, Nat.reduceBEq, Nat.reduceSub, EE.down]
                refine guardSB (fun g23 => ?_) (fun g23 => ?_)
                · have h := (if_pos g23).symm.trans h
                  simp only [VW.down, Nat.reduceEqDiff, reduceCtorEq, Nat.reduceAdd, Nat.reduceLeDiff, Nat.reduceLT, Nat.reduceBEq, Nat.reduceSub, EE.down]
                  refine guardSB (fun g24 => ?_) (fun g24 => ?_)
                  · have h := (if_pos g24).symm.trans h
                    simp only [VW.down, Nat.reduceEqDiff, reduceCtorEq, Nat.reduceAdd, Nat.reduceLeDiff, Nat.reduceLT, Nat.reduceBEq, Nat.reduceSub, EE.down]
                    refine guardS (fun g25 => ?_) (fun g25 => ?_)
                    · have h := (if_pos g25).symm.trans h
                      simp only [VW.down, Nat.reduceEqDiff, reduceCtorEq, Nat.reduceAdd, Nat.reduceLeDiff, Nat.reduceLT, Nat.reduceBEq, Nat.reduceSub, EE.down]
                      refine guardS (fun g26 => ?_) (fun g26 => ?_)
                      · have h := (if_pos g26).symm.trans h
                        simp only [VW.down, Nat.reduceEqDiff, reduceCtorEq, Nat.reduceAdd, Nat.reduceLeDiff, Nat.reduceLT, Nat.reduceBEq, Nat.reduceSub, EE.down]
                        refine guardS (fun g27 => ?_) (fun g27 => ?_)
                        · have h := (if_pos g27).symm.trans h
                          simp only [VW.down, Nat.reduceEqDiff, reduceCtorEq, Nat.reduceAdd, Nat.reduceLeDiff, Nat.reduceLT, Nat.reduceBEq, Nat.reduceSub, EE.down]
                          obtain ⟨y28, hy28, h⟩ := Option.bind_eq_some_iff.1 h
                          refine t_idxF (enc := eWorkItem) (xs := ((t21).Active)) rfl rfl hy28 rfl ?_
                          simp only [VW.down, Nat.reduceEqDiff, reduceCtorEq, Nat.reduceAdd, Nat.reduceLeDiff, Nat.reduceLT, Nat.reduceBEq, Nat.reduceSub, EE.down]
                          refine guardS (fun g29 => ?_) (fun g29 => ?_)
                          · have h := (if_pos g29).symm.trans h
                            simp only [VW.down, Nat.reduceEqDiff, reduceCtorEq, Nat.reduceAdd, Nat.reduceLeDiff, Nat.reduceLT, Nat.reduceBEq, Nat.reduceSub, EE.down]
                            refine guardS (fun g30 => ?_) (fun g30 => ?_)
                            · have h := (if_pos g30).symm.trans h
                              simp only [VW.down, Nat.reduceEqDiff, reduceCtorEq, Nat.reduceAdd, Nat.reduceLeDiff, Nat.reduceLT, Nat.reduceBEq, Nat.reduceSub, EE.down]
                              obtain ⟨t31, ht31, h⟩ := Option.bind_eq_some_iff.1 h
                              refine callX_n [] (F24_ok ht31) ?_ ?_ ?_ ?_ ?_ ?_
                              · first | rfl | simp [nrmA, nrmC, nrm, A1.ren, C.ren, rn, List.length_set]
                              · simp [liveAll, A1.live, C.live]
                              · rfl
                              · decide
                              · exact trivial
                              simp only [VW.down, Nat.reduceEqDiff, reduceCtorEq, Nat.reduceAdd, Nat.reduceLeDiff, Nat.reduceLT, Nat.reduceBEq, Nat.reduceSub, EE.down]
                              obtain rfl := Option.some.inj h
                              exact eM [] rfl
                            · have h := (if_neg g30).symm.trans h
                              simp only [VW.down, Nat.reduceEqDiff, reduceCtorEq, Nat.reduceAdd, Nat.reduceLeDiff, Nat.reduceLT, Nat.reduceBEq, Nat.reduceSub, EE.down]
                              obtain rfl := Option.some.inj h
                              exact eM [] rfl
                          · have h := (if_neg g29).symm.trans h
                            simp only [VW.down, Nat.reduceEqDiff, reduceCtorEq, Nat.reduceAdd, Nat.reduceLeDiff, Nat.reduceLT, Nat.reduceBEq, Nat.reduceSub, EE.down]
                            obtain rfl := Option.some.inj h
                            exact eM [] rfl
                        · have h := (if_neg g27).symm.trans h
                          simp only [VW.down, Nat.reduceEqDiff, reduceCtorEq, Nat.reduceAdd, Nat.reduceLeDiff, Nat.reduceLT, Nat.reduceBEq, Nat.reduceSub, EE.down]
                          obtain rfl := Option.some.inj h
                          exact eM [] rfl
                      · have h := (if_neg g26).symm.trans h
                        simp only [VW.down, Nat.reduceEqDiff, reduceCtorEq, Nat.reduceAdd, Nat.reduceLeDiff, Nat.reduceLT, Nat.reduceBEq, Nat.reduceSub, EE.down]
                        obtain rfl := Option.some.inj h
                        exact eM [] rfl
                    · have h := (if_neg g25).symm.trans h
                      simp only [VW.down, Nat.reduceEqDiff, reduceCtorEq, Nat.reduceAdd, Nat.reduceLeDiff, Nat.reduceLT, Nat.reduceBEq, Nat.reduceSub, EE.down]
                      obtain rfl := Option.some.inj h
                      exact eM [] rfl
                  · have h := (if_neg g24).symm.trans h
                    simp only [VW.down, Nat.reduceEqDiff, reduceCtorEq, Nat.reduceAdd, Nat.reduceLeDiff, Nat.reduceLT, Nat.reduceBEq, Nat.reduceSub, EE.down]
                    obtain rfl := Option.some.inj h
                    exact eM [] rfl
                · have h := (if_neg g23).symm.trans h
                  simp only [VW.down, Nat.reduceEqDiff, reduceCtorEq, Nat.reduceAdd, Nat.reduceLeDiff, Nat.reduceLT, Nat.reduceBEq, Nat.reduceSub, EE.down]
                  obtain rfl := Option.some.inj h
                  exact eM [] rfl
              · rintro _ rfl
                clear ho
                simp only [VW.down, Nat.reduceEqDiff, reduceCtorEq, Nat.reduceAdd, Nat.reduceLeDiff, Nat.reduceLT, Nat.reduceBEq, Nat.reduceSub, EE.down]
                obtain rfl := Option.some.inj h
                exact eF []

/- orchestrator/orchestratorref42.New -/
def F10  : Option (Unit) := some (())
def a10 : AFn := ⟨2, [(.cell 0 (some 6))],
 (.seq (.reg [⟨(some 0), none, .zbox [.d (.v (.slice none 0 0)), .d (.v (.slice none 0 0)), .d (.v (.slice none 0 0)), .d (.v (.slice none 0 0)), .d (.v (.slice none 0 0)), .d (.v (.int .i64 0))], [], (some [])⟩])
 (.seq (.reg [⟨(some 1), none, .build [.d (.v (.slice none 0 0)), .d (.v (.slice none 0 0)), .d (.v (.slice none 0 0)), .d (.v (.slice none 0 0)), .d (.v (.slice none 0 0)), .d (.v (.int .i64 0))] [], [], none⟩,
   ⟨none, none, .store 6 (.t 0) (.t 1), [], none⟩])
 .ret))⟩
theorem a10_ok : afn Try.prog 10 = some a10.er := by kernel_rfl
theorem F10_ok {r : Unit} (h : F10 = some r) : CallD Try.prog 10 [] [] (tupV [.agg [.d (.sl (([] : List WorkItem).map eWorkItem)), .d (.sl (([] : List WorkItem).map eWorkItem)), .d (.sl (([] : List WorkItem).map eWorkItem)), .d (.sl (([] : List WorkItem).map eWorkItem)), .d (.sl (([] : List WorkItem).map eWorkItem)), .d (.v (.int .i64 0))]]) [] := by
  refine callS a10_ok (by simp [a10]) ?_
  rw [F10] at h
  simp only [a10, VW.down, Nat.reduceEqDiff, reduceCtorEq, Nat.reduceAdd, Nat.reduceLeDiff, Nat.reduceLT, Nat.reduceBEq, Nat.reduceSub, EE.down]
  obtain rfl := Option.some.inj h
  exact eF []

/- orchestrator/orchestratorlaw42.do -/
def F11 (x0 : SchedQueue) (x1 : Act) : Option ((List WorkItem) × (List WorkItem) × (List WorkItem) × (List WorkItem) × (List WorkItem) × Int × ByteArray × Bool) := (if x1.Kind = 0 then (F15 x0 x1.Key x1.Priority).bind fun t2 => some ((t2.1, t2.2.1, t2.2.2.1, t2.2.2.2.1, t2.2.2.2.2, x0.Cycle, (⟨#[]⟩ : ByteArray), false)) else (if x1.Kind = 1 then (F17 x0).bind fun t4 => some ((t4.1, t4.2.1, t4.2.2.1, t4.2.2.2.1, t4.2.2.2.2.1, t4.2.2.2.2.2.1, t4.2.2.2.2.2.2.1, t4.2.2.2.2.2.2.2)) else (if x1.Kind = 2 then (F23 x0 x1.Key x1.Priority).bind fun t6 => some ((t6.1, t6.2.1, t6.2.2.1, t6.2.2.2.1, t6.2.2.2.2, x0.Cycle, (⟨#[]⟩ : ByteArray), false)) else (if x1.Kind = 3 then (F18 x0 x1.Key x1.Priority x1.N).bind fun t8 => some ((t8.1, t8.2.1, t8.2.2.1, t8.2.2.2.1, t8.2.2.2.2, x0.Cycle, (⟨#[]⟩ : ByteArray), false)) else (if x1.Kind = 4 then (F22 x0).bind fun t10 => some (((t10).Waiting, (t10).Active, (t10).Stuck, (t10).Backoff, (t10).Retries, (t10).Cycle, (⟨#[]⟩ : ByteArray), false)) else (if x1.Kind = 5 then (F21 x0 x1.N).bind fun t12 => some (((t12).Waiting, (t12).Active, (t12).Stuck, (t12).Backoff, (t12).Retries, (t12).Cycle, (⟨#[]⟩ : ByteArray), false)) else (F24 x0 x1.Key).bind fun t13 => some ((t13.1, t13.2.1, t13.2.2.1, t13.2.2.2.1, t13.2.2.2.2, x0.Cycle, (⟨#[]⟩ : ByteArray), false))))))))
def a11 : AFn := ⟨56, [(.cell 4 (some 6)), (.tmp 5), (.tmp 6)],
 (.seq (.reg [⟨(some 2), none, .box (.t 0), [], none⟩,
   ⟨(some 3), none, .box (.t 1), [], none⟩,
   ⟨(some 4), none, .zbox [.d (.v (.slice none 0 0)), .d (.v (.slice none 0 0)), .d (.v (.slice none 0 0)), .d (.v (.slice none 0 0)), .d (.v (.slice none 0 0)), .d (.v (.int .i64 0))], [], none⟩,
   ⟨(some 5), none, .mv (kS ⟨#[]⟩), [], none⟩,
   ⟨(some 6), none, .mv (kB false), [], none⟩])
 (.seq (.seq (.reg [⟨(some 7), none, .fieldA 0 (.t 3), [], none⟩,
   ⟨(some 8), none, .load none (.t 7), [], none⟩])
 (.block 0 (.seq (.reg [⟨(some 10), none, .bin .eql (.t 8) (.k (.c (.d (.v (.int .u8 0))))), [], none⟩,
   ⟨(some 9), none, .mv (.t 10), [], none⟩])
 (.cond (.t 9)
 (.seq (.reg [⟨(some 11), none, .load (some 6) (.t 2), [], none⟩,
   ⟨(some 12), none, .fieldA 1 (.t 3), [], none⟩,
   ⟨(some 13), none, .load none (.t 12), [], none⟩,
   ⟨(some 14), none, .fieldA 2 (.t 3), [], none⟩,
   ⟨(some 15), none, .load none (.t 14), [], none⟩,
   ⟨(some 16), none, .call 15 [(.t 11), (.t 13), (.t 15)], [], none⟩,
   ⟨none, none, .store 6 (.t 4) (.t 16), [], none⟩,
   ⟨(some 5), none, .mv (kS ⟨#[]⟩), [], none⟩,
   ⟨(some 6), none, .mv (kB false), [], none⟩])
 .ret)
 (.seq (.reg [⟨(some 18), none, .bin .eql (.t 8) (.k (.c (.d (.v (.int .u8 1))))), [], none⟩,
   ⟨(some 17), none, .mv (.t 18), [], none⟩])
 (.cond (.t 17)
 (.seq (.reg [⟨(some 19), none, .load (some 6) (.t 2), [], none⟩,
   ⟨(some 20), none, .call 17 [(.t 19)], [], none⟩,
   ⟨(some 21), none, .ext (.t 20) 0, [], none⟩,
   ⟨(some 22), none, .ext (.t 20) 1, [], none⟩,
   ⟨(some 23), none, .ext (.t 20) 2, [], none⟩,
   ⟨none, none, .store 6 (.t 4) (.t 21), [], none⟩,
   ⟨(some 5), none, .mv (.t 22), [], none⟩,
   ⟨(some 6), none, .mv (.t 23), [], none⟩])
 .ret)
 (.seq (.reg [⟨(some 25), none, .bin .eql (.t 8) (.k (.c (.d (.v (.int .u8 2))))), [], none⟩,
   ⟨(some 24), none, .mv (.t 25), [], none⟩])
 (.cond (.t 24)
 (.seq (.reg [⟨(some 26), none, .load (some 6) (.t 2), [], none⟩,
   ⟨(some 27), none, .fieldA 1 (.t 3), [], none⟩,
   ⟨(some 28), none, .load none (.t 27), [], none⟩,
   ⟨(some 29), none, .fieldA 2 (.t 3), [], none⟩,
   ⟨(some 30), none, .load none (.t 29), [], none⟩,
   ⟨(some 31), none, .call 23 [(.t 26), (.t 28), (.t 30)], [], none⟩,
   ⟨none, none, .store 6 (.t 4) (.t 31), [], none⟩,
   ⟨(some 5), none, .mv (kS ⟨#[]⟩), [], none⟩,
   ⟨(some 6), none, .mv (kB false), [], none⟩])
 .ret)
 (.seq (.reg [⟨(some 33), none, .bin .eql (.t 8) (.k (.c (.d (.v (.int .u8 3))))), [], none⟩,
   ⟨(some 32), none, .mv (.t 33), [], none⟩])
 (.cond (.t 32)
 (.seq (.reg [⟨(some 34), none, .load (some 6) (.t 2), [], none⟩,
   ⟨(some 35), none, .fieldA 1 (.t 3), [], none⟩,
   ⟨(some 36), none, .load none (.t 35), [], none⟩,
   ⟨(some 37), none, .fieldA 2 (.t 3), [], none⟩,
   ⟨(some 38), none, .load none (.t 37), [], none⟩,
   ⟨(some 39), none, .fieldA 3 (.t 3), [], none⟩,
   ⟨(some 40), none, .load none (.t 39), [], none⟩,
   ⟨(some 41), none, .call 18 [(.t 34), (.t 36), (.t 38), (.t 40)], [], none⟩,
   ⟨none, none, .store 6 (.t 4) (.t 41), [], none⟩,
   ⟨(some 5), none, .mv (kS ⟨#[]⟩), [], none⟩,
   ⟨(some 6), none, .mv (kB false), [], none⟩])
 .ret)
 (.seq (.reg [⟨(some 43), none, .bin .eql (.t 8) (.k (.c (.d (.v (.int .u8 4))))), [], none⟩,
   ⟨(some 42), none, .mv (.t 43), [], none⟩])
 (.cond (.t 42)
 (.seq (.reg [⟨(some 44), none, .load (some 6) (.t 2), [], none⟩,
   ⟨(some 45), none, .call 22 [(.t 44)], [], none⟩,
   ⟨none, none, .store 6 (.t 4) (.t 45), [], none⟩,
   ⟨(some 5), none, .mv (kS ⟨#[]⟩), [], none⟩,
   ⟨(some 6), none, .mv (kB false), [], none⟩])
 .ret)
 (.seq (.reg [⟨(some 47), none, .bin .eql (.t 8) (.k (.c (.d (.v (.int .u8 5))))), [], none⟩,
   ⟨(some 46), none, .mv (.t 47), [], none⟩])
 (.cond (.t 46)
 (.seq (.reg [⟨(some 48), none, .load (some 6) (.t 2), [], none⟩,
   ⟨(some 49), none, .fieldA 3 (.t 3), [], none⟩,
   ⟨(some 50), none, .load none (.t 49), [], none⟩,
   ⟨(some 51), none, .call 21 [(.t 48), (.t 50)], [], none⟩,
   ⟨none, none, .store 6 (.t 4) (.t 51), [], none⟩,
   ⟨(some 5), none, .mv (kS ⟨#[]⟩), [], none⟩,
   ⟨(some 6), none, .mv (kB false), [], none⟩])
 .ret)
 .skip))))))))))))))
 (.seq (.reg [⟨(some 52), none, .load (some 6) (.t 2), [], none⟩,
   ⟨(some 53), none, .fieldA 1 (.t 3), [], none⟩,
   ⟨(some 54), none, .load none (.t 53), [], none⟩,
   ⟨(some 55), none, .call 24 [(.t 52), (.t 54)], [], none⟩,
   ⟨none, none, .store 6 (.t 4) (.t 55), [], none⟩,
   ⟨(some 5), none, .mv (kS ⟨#[]⟩), [], none⟩,
   ⟨(some 6), none, .mv (kB false), [], none⟩])
 .ret)))⟩
theorem a11_ok : afn Try.prog 11 = some a11.er := by kernel_rfl
theorem F11_ok {x0 : SchedQueue} {x1 : Act} {r : (List WorkItem) × (List WorkItem) × (List WorkItem) × (List WorkItem) × (List WorkItem) × Int × ByteArray × Bool} (h : F11 x0 x1 = some r) : CallD Try.prog 11 [.agg [.d (.sl (x0.Waiting.map eWorkItem)), .d (.sl (x0.Active.map eWorkItem)), .d (.sl (x0.Stuck.map eWorkItem)), .d (.sl (x0.Backoff.map eWorkItem)), .d (.sl (x0.Retries.map eWorkItem)), .d (.v (.int .i64 x0.Cycle))], .agg [.d (.v (.int .u8 x1.Kind)), .d (.v (.string x1.Key)), .d (.v (.int .i64 x1.Priority)), .d (.v (.int .i64 x1.N))]] [] (tupV [.agg [.d (.sl (r.1.map eWorkItem)), .d (.sl (r.2.1.map eWorkItem)), .d (.sl (r.2.2.1.map eWorkItem)), .d (.sl (r.2.2.2.1.map eWorkItem)), .d (.sl (r.2.2.2.2.1.map eWorkItem)), .d (.v (.int .i64 r.2.2.2.2.2.1))], .c (.d (.v (.string r.2.2.2.2.2.2.1))), .c (.d (.v (.bool r.2.2.2.2.2.2.2)))]) [] := by
  refine callS a11_ok (by simp [a11]) ?_
  rw [F11] at h
  simp only [a11, VW.down, Nat.reduceEqDiff, reduceCtorEq, Nat.reduceAdd, Nat.reduceLeDiff, Nat.reduceLT, Nat.reduceBEq, Nat.reduceSub, EE.down]
  refine condS (fun c1 => ?_) (fun c1 => ?_)
  · have h := (if_pos c1).symm.trans h
    simp only [VW.down, Nat.reduceEqDiff, reduceCtorEq, Nat.reduceAdd, Nat.reduceLeDiff, Nat.reduceLT, Nat.reduceBEq, Nat.reduceSub, EE.down]
    obtain ⟨t2, ht2, h⟩ := Option.bind_eq_some_iff.1 h
    refine callX_n [] (F15_ok ht2) ?_ ?_ ?_ ?_ ?_ ?_
    · first | rfl | simp [nrmA, nrmC, nrm, A1.ren, C.ren, rn, List.length_set]
    · simp [liveAll, A1.live, C.live]
    · rfl
    · decide
    · exact trivial
    simp only [VW.down, Nat.reduceEqDiff, reduceCtorEq, Nat.reduceAdd, Nat.reduceLeDiff, Nat.reduceLT, Nat.reduceBEq, Nat.reduceSub, EE.down]
    obtain rfl := Option.some.inj h
    exact eF []
  · have h := (if_neg c1).symm.trans h
    simp only [VW.down, Nat.reduceEqDiff, reduceCtorEq, Nat.reduceAdd, Nat.reduceLeDiff, Nat.reduceLT, Nat.reduceBEq, Nat.reduceSub, EE.down]
    refine condS (fun c3 => ?_) (fun c3 => ?_)
    · have h := (if_pos c3).symm.trans h
      simp only [VW.down, Nat.reduceEqDiff, reduceCtorEq, Nat.reduceAdd, Nat.reduceLeDiff, Nat.reduceLT, Nat.reduceBEq, Nat.reduceSub, EE.down]
      obtain ⟨t4, ht4, h⟩ := Option.bind_eq_some_iff.1 h
      refine callX_n [] (F17_ok ht4) ?_ ?_ ?_ ?_ ?_ ?_
      · first | rfl | simp [nrmA, nrmC, nrm, A1.ren, C.ren, rn, List.length_set]
      · simp [liveAll, A1.live, C.live]
      · rfl
      · decide
      · exact trivial
      simp only [VW.down, Nat.reduceEqDiff, reduceCtorEq, Nat.reduceAdd, Nat.reduceLeDiff, Nat.reduceLT, Nat.reduceBEq, Nat.reduceSub, EE.down]
      obtain rfl := Option.some.inj h
      exact eF []
    · have h := (if_neg c3).symm.trans h
      simp only [VW.down, Nat.reduceEqDiff, reduceCtorEq, Nat.reduceAdd, Nat.reduceLeDiff, Nat.reduceLT, Nat.reduceBEq, Nat.reduceSub, EE.down]
      refine condS (fun c5 => ?_) (fun c5 => ?_)
      · have h := (if_pos c5).symm.trans h
        simp only [VW.down, Nat.reduceEqDiff, reduceCtorEq, Nat.reduceAdd, Nat.reduceLeDiff, Nat.reduceLT, Nat.reduceBEq, Nat.reduceSub, EE.down]
        obtain ⟨t6, ht6, h⟩ := Option.bind_eq_some_iff.1 h
        refine callX_n [] (F23_ok ht6) ?_ ?_ ?_ ?_ ?_ ?_
        · first | rfl | simp [nrmA, nrmC, nrm, A1.ren, C.ren, rn, List.length_set]
        · simp [liveAll, A1.live, C.live]
        · rfl
        · decide
        · exact trivial
        simp only [VW.down, Nat.reduceEqDiff, reduceCtorEq, Nat.reduceAdd, Nat.reduceLeDiff, Nat.reduceLT, Nat.reduceBEq, Nat.reduceSub, EE.down]
        obtain rfl := Option.some.inj h
        exact eF []
      · have h := (if_neg c5).symm.trans h
        simp only [VW.down, Nat.reduceEqDiff, reduceCtorEq, Nat.reduceAdd, Nat.reduceLeDiff, Nat.reduceLT, Nat.reduceBEq, Nat.reduceSub, EE.down]
        refine condS (fun c7 => ?_) (fun c7 => ?_)
        · have h := (if_pos c7).symm.trans h
          simp only [VW.down, Nat.reduceEqDiff, reduceCtorEq, Nat.reduceAdd, Nat.reduceLeDiff, Nat.reduceLT, Nat.reduceBEq, Nat.reduceSub, EE.down]
          obtain ⟨t8, ht8, h⟩ := Option.bind_eq_some_iff.1 h
          refine callX_n [] (F18_ok ht8) ?_ ?_ ?_ ?_ ?_ ?_
          · first | rfl | simp [nrmA, nrmC, nrm, A1.ren, C.ren, rn, List.length_set]
          · simp [liveAll, A1.live, C.live]
          · rfl
          · decide
          · exact trivial
          simp only [VW.down, Nat.reduceEqDiff, reduceCtorEq, Nat.reduceAdd, Nat.reduceLeDiff, Nat.reduceLT, Nat.reduceBEq, Nat.reduceSub, EE.down]
          obtain rfl := Option.some.inj h
          exact eF []
        · have h := (if_neg c7).symm.trans h
          simp only [VW.down, Nat.reduceEqDiff, reduceCtorEq, Nat.reduceAdd, Nat.reduceLeDiff, Nat.reduceLT, Nat.reduceBEq, Nat.reduceSub, EE.down]
          refine condS (fun c9 => ?_) (fun c9 => ?_)
          · have h := (if_pos c9).symm.trans h
            simp only [VW.down, Nat.reduceEqDiff, reduceCtorEq, Nat.reduceAdd, Nat.reduceLeDiff, Nat.reduceLT, Nat.reduceBEq, Nat.reduceSub, EE.down]
            obtain ⟨t10, ht10, h⟩ := Option.bind_eq_some_iff.1 h
            refine callX_n [] (F22_ok ht10) ?_ ?_ ?_ ?_ ?_ ?_
            · first | rfl | simp [nrmA, nrmC, nrm, A1.ren, C.ren, rn, List.length_set]
            · simp [liveAll, A1.live, C.live]
            · rfl
            · decide
            · exact trivial
            simp only [VW.down, Nat.reduceEqDiff, reduceCtorEq, Nat.reduceAdd, Nat.reduceLeDiff, Nat.reduceLT, Nat.reduceBEq, Nat.reduceSub, EE.down]
            obtain rfl := Option.some.inj h
            exact eF []
          · have h := (if_neg c9).symm.trans h
            simp only [VW.down, Nat.reduceEqDiff, reduceCtorEq, Nat.reduceAdd, Nat.reduceLeDiff, Nat.reduceLT, Nat.reduceBEq, Nat.reduceSub, EE.down]
            refine condS (fun c11 => ?_) (fun c11 => ?_)
            · have h := (if_pos c11).symm.trans h
              simp only [VW.down, Nat.reduceEqDiff, reduceCtorEq, Nat.reduceAdd, Nat.reduceLeDiff, Nat.reduceLT, Nat.reduceBEq, Nat.reduceSub, EE.down]
              obtain ⟨t12, ht12, h⟩ := Option.bind_eq_some_iff.1 h
              refine callX_n [] (F21_ok ht12) ?_ ?_ ?_ ?_ ?_ ?_
              · first | rfl | simp [nrmA, nrmC, nrm, A1.ren, C.ren, rn, List.length_set]
              · simp [liveAll, A1.live, C.live]
              · rfl
              · decide
              · exact trivial
              simp only [VW.down, Nat.reduceEqDiff, reduceCtorEq, Nat.reduceAdd, Nat.reduceLeDiff, Nat.reduceLT, Nat.reduceBEq, Nat.reduceSub, EE.down]
              obtain rfl := Option.some.inj h
              exact eF []
            · have h := (if_neg c11).symm.trans h
              simp only [VW.down, Nat.reduceEqDiff, reduceCtorEq, Nat.reduceAdd, Nat.reduceLeDiff, Nat.reduceLT, Nat.reduceBEq, Nat.reduceSub, EE.down]
              obtain ⟨t13, ht13, h⟩ := Option.bind_eq_some_iff.1 h
              refine callX_n [] (F24_ok ht13) ?_ ?_ ?_ ?_ ?_ ?_
              · first | rfl | simp [nrmA, nrmC, nrm, A1.ren, C.ren, rn, List.length_set]
              · simp [liveAll, A1.live, C.live]
              · rfl
              · decide
              · exact trivial
              simp only [VW.down, Nat.reduceEqDiff, reduceCtorEq, Nat.reduceAdd, Nat.reduceLeDiff, Nat.reduceLT, Nat.reduceBEq, Nat.reduceSub, EE.down]
              obtain rfl := Option.some.inj h
              exact eF []

/- orchestrator/orchestratorref42.find -/
def F44_l1 (x1 : ByteArray) : List WorkItem → Nat → Option ((Int) ⊕ (Unit))
  | [], o1_0 => some (Sum.inr (()))
  | xo1 :: xs, o1_0 => (if xo1.Key = x1 then (some ((o1_0 : Int))).map Sum.inl else F44_l1 x1 xs (o1_0 + 1))
def F44 (x0 : (List WorkItem)) (x1 : ByteArray) : Option (Int) := (((ck (0 ≤ x0.length ∧ x0.length ≤ 4294967290)).bind fun u4 => F44_l1 x1 x0 0).bind fun o1 => match o1 with | Sum.inl f => some f | Sum.inr po1 => some ((-1)))
def a44 : AFn := ⟨20, [(.tmp 4)],
 (.seq (.reg [⟨(some 4), none, .mv (kI 0), [], none⟩])
 (.seq (.seq (.reg [⟨(some 5), none, .mv (kI 0), [], none⟩])
 (.sem (.block 0 (.loop (.seq (.seq (.reg [⟨(some 6), none, .mv (.t 5), [], none⟩,
   ⟨(some 7), none, .mv (.t 0), [], none⟩,
   ⟨(some 8), none, .len (.t 7), [], none⟩,
   ⟨(some 9), none, .bin .lss (.t 6) (.t 8), [], none⟩])
 (.cond (.t 9)
 .skip
 (.exit 0)))
 (.seq (.block 1 (.seq (.reg [⟨(some 12), none, .mv (.t 0), [], none⟩,
   ⟨(some 13), none, .mv (.t 5), [], none⟩,
   ⟨(some 14), none, .indexA 2 (.t 12) (.t 13), [], none⟩,
   ⟨(some 15), none, .fieldA 0 (.t 14), [], none⟩,
   ⟨(some 16), none, .load none (.t 15), [], none⟩,
   ⟨(some 17), none, .mv (.t 1), [], none⟩,
   ⟨(some 18), none, .bin .eql (.t 16) (.t 17), [], none⟩])
 (.cond (.t 18)
 (.seq (.reg [⟨(some 19), none, .mv (.t 5), [], none⟩,
   ⟨(some 4), none, .mv (.t 19), [], none⟩])
 .ret)
 .skip)))
 (.reg [⟨(some 10), none, .mv (.t 5), [], none⟩,
   ⟨(some 11), none, .bin .add (.t 10) (kI 1), [], none⟩,
   ⟨(some 5), none, .mv (.t 11), [], none⟩])))))))
 (.seq (.reg [⟨(some 4), none, .mv (kI (-1)), [], none⟩])
 .ret)))⟩
theorem a44_ok : afn Try.prog 44 = some a44.er := by kernel_rfl
theorem F44_ok {x0 : (List WorkItem)} {x1 : ByteArray} {r : Int} (h : F44 x0 x1 = some r) : CallD Try.prog 44 [.c (.d (.sl (x0.map eWorkItem))), .c (.d (.v (.string x1)))] [] (tupV [.c (.d (.v (.int .i64 r)))]) [] := by
  refine callS a44_ok (by simp [a44]) ?_
  rw [F44] at h
  simp only [a44, VW.down, Nat.reduceEqDiff, reduceCtorEq, Nat.reduceAdd, Nat.reduceLeDiff, Nat.reduceLT, Nat.reduceBEq, Nat.reduceSub, EE.down]
  obtain ⟨o1, ho, h⟩ := Option.bind_eq_some_iff.1 h
  refine cutS (fun s => ∃ po1, o1 = Sum.inr po1 ∧ s = ⟨[], []⟩) ?_ ?_
  · have h0o1 := h
    have h := ho
    clear ho
    obtain ⟨_, hk, h⟩ := Option.bind_eq_some_iff.1 h
    have hk := ck_some hk
    simp only [VW.down, Nat.reduceEqDiff, reduceCtorEq, Nat.reduceAdd, Nat.reduceLeDiff, Nat.reduceLT, Nat.reduceBEq, Nat.reduceSub, EE.down]
    refine bL (fun j s => ∃ (o1_0 : Nat), (o1_0 ≤ x0.length ∧ j = x0.length - o1_0) ∧ s = ⟨[(0, .one (.c (.d (.sl (x0.map eWorkItem))))), (1, .one (.c (.d (.v (.string x1))))), (5, .one (.c (.d (.v (.int .i64 ((o1_0 : Int)))))))], []⟩ ∧ F44_l1 x1 (x0.drop o1_0) o1_0 = some o1) (x0.length - 0) [] ⟨0, ⟨hk.1, rfl⟩, rfl, h⟩ ?_
    rintro _ _ ⟨o1_0, ⟨hi, rfl⟩, rfl, h⟩
    simp only [VW.down, Nat.reduceEqDiff, reduceCtorEq, Nat.reduceAdd, Nat.reduceLeDiff, Nat.reduceLT, Nat.reduceBEq, Nat.reduceSub, EE.down]
    refine condS (fun c2 => ?_) (fun c2 => ?_)
    · obtain ⟨xo1, hxo1, hd⟩ := countY c2
      rw [hd, F44_l1] at h
      simp only [VW.down, Nat.reduceEqDiff, reduceCtorEq, Nat.reduceAdd, Nat.reduceLeDiff, Nat.reduceLT, Nat.reduceBEq, Nat.reduceSub, EE.down]
      refine t_idxF (enc := eWorkItem) (xs := x0) rfl rfl hxo1 rfl ?_
      simp only [VW.down, Nat.reduceEqDiff, reduceCtorEq, Nat.reduceAdd, Nat.reduceLeDiff, Nat.reduceLT, Nat.reduceBEq, Nat.reduceSub, EE.down]
      refine condS (fun c3 => ?_) (fun c3 => ?_)
      · have h := (if_pos c3).symm.trans h
        simp only [VW.down, Nat.reduceEqDiff, reduceCtorEq, Nat.reduceAdd, Nat.reduceLeDiff, Nat.reduceLT, Nat.reduceBEq, Nat.reduceSub, EE.down]
        obtain ⟨fh0o1, hfh0o1, rfl⟩ := Option.map_eq_some_iff.1 h
        have h := hfh0o1.trans h0o1
        obtain rfl := Option.some.inj h
        exact eF []
      · have h := (if_neg c3).symm.trans h
        simp only [VW.down, Nat.reduceEqDiff, reduceCtorEq, Nat.reduceAdd, Nat.reduceLeDiff, Nat.reduceLT, Nat.reduceBEq, Nat.reduceSub, EE.down]
        rw [wrapN (by omega)]
        exact eL' (x0.length - (o1_0 + 1)) [] ⟨o1_0 + 1, ⟨by omega, rfl⟩, rfl, h⟩ (by omega)
    · rw [countN c2, F44_l1] at h
      simp only [VW.down, Nat.reduceEqDiff, reduceCtorEq, Nat.reduceAdd, Nat.reduceLeDiff, Nat.reduceLT, Nat.reduceBEq, Nat.reduceSub, EE.down]
      obtain rfl := Option.some.inj h
      exact eM [] ⟨_, rfl, rfl⟩
  · rintro _ ⟨po1, rfl, rfl⟩
    clear ho
    dsimp only at h
    simp only [VW.down, Nat.reduceEqDiff, reduceCtorEq, Nat.reduceAdd, Nat.reduceLeDiff, Nat.reduceLT, Nat.reduceBEq, Nat.reduceSub, EE.down]
    obtain rfl := Option.some.inj h
    exact eF []

/- orchestrator/orchestratorref42.without -/
def F50_l1 (x1 : ByteArray) : List WorkItem → Nat → (List WorkItem) → Option ((List WorkItem))
  | [], o1_1, o1_0 => some o1_0
  | xo1 :: xs, o1_1, o1_0 => (((if ¬ (xo1.Key = x1) then (apI o1_0 ([xo1])).bind fun a5 => some a5 else some o1_0)).bind fun o3 => F50_l1 x1 xs (o1_1 + 1) o3)
def F50 (x0 : (List WorkItem)) (x1 : ByteArray) : Option ((List WorkItem)) := (((ck (0 ≤ x0.length ∧ x0.length ≤ 4294967290)).bind fun u6 => F50_l1 x1 x0 0 ([])).bind fun o1 => some o1)
def a50 : AFn := ⟨28, [(.tmp 4)],
 (.seq (.reg [⟨(some 4), none, .mv kN, [], none⟩])
 (.seq (.reg [⟨(some 5), none, .mv kN, [], none⟩])
 (.seq (.seq (.reg [⟨(some 6), none, .mv (kI 0), [], none⟩])
 (.sem (.block 0 (.loop (.seq (.seq (.reg [⟨(some 7), none, .mv (.t 6), [], none⟩,
   ⟨(some 8), none, .mv (.t 0), [], none⟩,
   ⟨(some 9), none, .len (.t 8), [], none⟩,
   ⟨(some 10), none, .bin .lss (.t 7) (.t 9), [], none⟩])
 (.cond (.t 10)
 .skip
 (.exit 0)))
 (.seq (.sem (.block 1 (.seq (.reg [⟨(some 13), none, .mv (.t 0), [], none⟩,
   ⟨(some 14), none, .mv (.t 6), [], none⟩,
   ⟨(some 15), none, .indexA 2 (.t 13) (.t 14), [], none⟩,
   ⟨(some 16), none, .fieldA 0 (.t 15), [], none⟩,
   ⟨(some 17), none, .load none (.t 16), [], none⟩,
   ⟨(some 18), none, .mv (.t 1), [], none⟩,
   ⟨(some 19), none, .bin .neq (.t 17) (.t 18), [], none⟩])
 (.cond (.t 19)
 (.reg [⟨(some 20), none, .mv (.t 5), [], none⟩,
   ⟨(some 21), none, .mv (.t 0), [], none⟩,
   ⟨(some 22), none, .mv (.t 6), [], none⟩,
   ⟨(some 23), none, .indexA 2 (.t 21) (.t 22), [], none⟩,
   ⟨(some 24), none, .load (some 2) (.t 23), [], none⟩,
   ⟨(some 25), none, .bslice 2 [(.t 24)], [], none⟩,
   ⟨(some 26), none, .app 2 24 (.t 20) (.t 25), [], none⟩,
   ⟨(some 5), none, .mv (.t 26), [], none⟩])
 .skip))))
 (.reg [⟨(some 11), none, .mv (.t 6), [], none⟩,
   ⟨(some 12), none, .bin .add (.t 11) (kI 1), [], none⟩,
   ⟨(some 6), none, .mv (.t 12), [], none⟩])))))))
 (.seq (.reg [⟨(some 27), none, .mv (.t 5), [], none⟩,
   ⟨(some 4), none, .mv (.t 27), [], none⟩])
 .ret))))⟩
theorem a50_ok : afn Try.prog 50 = some a50.er := by kernel_rfl
theorem F50_ok {x0 : (List WorkItem)} {x1 : ByteArray} {r : (List WorkItem)} (h : F50 x0 x1 = some r) : CallD Try.prog 50 [.c (.d (.sl (x0.map eWorkItem))), .c (.d (.v (.string x1)))] [] (tupV [.c (.own 0 0 0 (r.length) none)]) [some (.arr 0 2 (r.map eWorkItem))] := by
  refine callS a50_ok (by simp [a50]) ?_
  rw [F50] at h
  simp only [a50, VW.down, Nat.reduceEqDiff, reduceCtorEq, Nat.reduceAdd, Nat.reduceLeDiff, Nat.reduceLT, Nat.reduceBEq, Nat.reduceSub, EE.down]
  obtain ⟨o1, ho, h⟩ := Option.bind_eq_some_iff.1 h
  refine cutS (fun s => s = ⟨[(5, .one (.c (.own 0 0 0 (o1.length) none)))], [some (.arr 0 2 (o1.map eWorkItem))]⟩) ?_ ?_
  · have h := ho
    clear ho
    obtain ⟨_, hk, h⟩ := Option.bind_eq_some_iff.1 h
    have hk := ck_some hk
    simp only [VW.down, Nat.reduceEqDiff, reduceCtorEq, Nat.reduceAdd, Nat.reduceLeDiff, Nat.reduceLT, Nat.reduceBEq, Nat.reduceSub, EE.down]
    refine bL (fun j s => ∃ (o1_1 : Nat) (o1_0 : List WorkItem), (o1_1 ≤ x0.length ∧ j = x0.length - o1_1) ∧ s = ⟨[(0, .one (.c (.d (.sl (x0.map eWorkItem))))), (1, .one (.c (.d (.v (.string x1))))), (5, .one (.c (.own 0 0 0 (o1_0.length) none))), (6, .one (.c (.d (.v (.int .i64 ((o1_1 : Int)))))))], [some (.arr 0 2 (o1_0.map eWorkItem))]⟩ ∧ F50_l1 x1 (x0.drop o1_1) o1_1 o1_0 = some o1) (x0.length - 0) [none] ⟨0, [], ⟨hk.1, rfl⟩, rfl, h⟩ ?_
    rintro _ _ ⟨o1_1, o1_0, ⟨hi, rfl⟩, rfl, h⟩
    simp only [VW.down, Nat.reduceEqDiff, reduceCtorEq, Nat.reduceAdd, Nat.reduceLeDiff, Nat.reduceLT, Nat.reduceBEq, Nat.reduceSub, EE.down]
    refine condS (fun c2 => ?_) (fun c2 => ?_)
    · obtain ⟨xo1, hxo1, hd⟩ := countY c2
      rw [hd, F50_l1] at h
      simp only [VW.down, Nat.reduceEqDiff, reduceCtorEq, Nat.reduceAdd, Nat.reduceLeDiff, Nat.reduceLT, Nat.reduceBEq, Nat.reduceSub, EE.down]
      obtain ⟨o3, ho, h⟩ := Option.bind_eq_some_iff.1 h
      refine cutS (fun s => s = ⟨[(0, .one (.c (.d (.sl (x0.map eWorkItem))))), (1, .one (.c (.d (.v (.string x1))))), (5, .one (.c (.own 0 0 0 (o3.length) none))), (6, .one (.c (.d (.v (.int .i64 ((o1_1 : Int)))))))], [some (.arr 0 2 (o3.map eWorkItem))]⟩) ?_ ?_
      · have h := ho
        clear ho
        simp only [VW.down, Nat.reduceEqDiff, reduceCtorEq, Nat.reduceAdd, Nat.reduceLeDiff, Nat.reduceLT, Nat.reduceBEq, Nat.reduceSub, EE.down]
        refine t_idxF (enc := eWorkItem) (xs := x0) rfl rfl hxo1 rfl ?_
        simp only [VW.down, Nat.reduceEqDiff, reduceCtorEq, Nat.reduceAdd, Nat.reduceLeDiff, Nat.reduceLT, Nat.reduceBEq, Nat.reduceSub, EE.down]
        refine condS (fun c4 => ?_) (fun c4 => ?_)
        · have h := (if_pos c4).symm.trans h
          simp only [VW.down, Nat.reduceEqDiff, reduceCtorEq, Nat.reduceAdd, Nat.reduceLeDiff, Nat.reduceLT, Nat.reduceBEq, Nat.reduceSub, EE.down]
          refine t_idxF (enc := eWorkItem) (xs := x0) rfl rfl hxo1 rfl ?_
          simp only [VW.down, Nat.reduceEqDiff, reduceCtorEq, Nat.reduceAdd, Nat.reduceLeDiff, Nat.reduceLT, Nat.reduceBEq, Nat.reduceSub, EE.down]
          refine t_bslice (enc := eWorkItem) (ys := [xo1]) rfl rfl (by simp [A1.cells]) rfl ?_
          simp only [VW.down, Nat.reduceEqDiff, reduceCtorEq, Nat.reduceAdd, Nat.reduceLeDiff, Nat.reduceLT, Nat.reduceBEq, Nat.reduceSub, EE.down]
          obtain ⟨a5, ha5, h⟩ := Option.bind_eq_some_iff.1 h
          refine t_app (enc := eWorkItem) (xs := o1_0) rfl rfl (by first | rfl | simp only [List.length_set] | exact (clrL_len (slI_len (by assumption))).symm) rfl (rows_full (enc := eWorkItem) (by first | rfl | simp only [List.length_set] | exact (clrL_len (slI_len (by assumption))).symm) rfl) ha5 ?_
          simp only [VW.down, Nat.reduceEqDiff, reduceCtorEq, Nat.reduceAdd, Nat.reduceLeDiff, Nat.reduceLT, Nat.reduceBEq, Nat.reduceSub, EE.down]
          obtain rfl := Option.some.inj h
          exact eM [some 0] rfl
        · have h := (if_neg c4).symm.trans h
          simp only [VW.down, Nat.reduceEqDiff, reduceCtorEq, Nat.reduceAdd, Nat.reduceLeDiff, Nat.reduceLT, Nat.reduceBEq, Nat.reduceSub, EE.down]
          obtain rfl := Option.some.inj h
          exact eM [some 0] rfl
      · rintro _ rfl
        clear ho
        simp only [VW.down, Nat.reduceEqDiff, reduceCtorEq, Nat.reduceAdd, Nat.reduceLeDiff, Nat.reduceLT, Nat.reduceBEq, Nat.reduceSub, EE.down]
        rw [wrapN (by omega)]
        exact eL' (x0.length - (o1_1 + 1)) [some 0] ⟨o1_1 + 1, o3, ⟨by omega, rfl⟩, rfl, h⟩ (by omega)
    · rw [countN c2, F50_l1] at h
      simp only [VW.down, Nat.reduceEqDiff, reduceCtorEq, Nat.reduceAdd, Nat.reduceLeDiff, Nat.reduceLT, Nat.reduceBEq, Nat.reduceSub, EE.down]
      obtain rfl := Option.some.inj h
      exact eM [some 0] rfl
  · rintro _ rfl
    clear ho
    simp only [VW.down, Nat.reduceEqDiff, reduceCtorEq, Nat.reduceAdd, Nat.reduceLeDiff, Nat.reduceLT, Nat.reduceBEq, Nat.reduceSub, EE.down]
    obtain rfl := Option.some.inj h
    exact eF [some 0]
end Go.Proofs.Ytdpbdbclninjaaa
