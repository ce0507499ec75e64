/- Each Go function as a function over typed data, and its walk. -/
import Derived.Test.YtadhmlfnfgpjjaaAX2
namespace Go.Proofs.Ytadhmlfnfgpjjaa
open Go Go.Fw Go.Shelf
set_option maxRecDepth 100000
set_option maxHeartbeats 4000000
set_option linter.unusedSimpArgs false
set_option linter.unusedVariables false
/- orchestrator/orchestratorref03.char -/
def F52 (x0 : Int) : Option (Bool) := (((if 97 ≤ x0 then (if x0 ≤ 122 then some true else (if 48 ≤ x0 then (if x0 ≤ 57 then some true else (if x0 = 45 then some true else (if x0 = 46 then some true else some (decide (x0 = 47))))) else (if x0 = 45 then some true else (if x0 = 46 then some true else some (decide (x0 = 47)))))) else (if 48 ≤ x0 then (if x0 ≤ 57 then some true else (if x0 = 45 then some true else (if x0 = 46 then some true else some (decide (x0 = 47))))) else (if x0 = 45 then some true else (if x0 = 46 then some true else some (decide (x0 = 47))))))).bind fun o1 => some o1)
def a52 : AFn := ⟨29, [(.tmp 2)],
 (.seq (.reg [⟨(some 2), none, .mv (kB false), [], (.new [])⟩])
 (.seq (.sem (.reg [⟨(some 3), none, .mv (.t 0), [], (.new [])⟩,
   ⟨(some 4), none, .bin .geq (.t 3) (.k (.c (.d (.v (.int .u8 97))))), [], (.new [])⟩,
   ⟨(some 5), none, .mv (.t 4), [], (.new [])⟩,
   ⟨(some 6), (some (5, true)), .mv (.t 0), [], (.new [])⟩,
   ⟨(some 7), (some (5, true)), .bin .leq (.t 6) (.k (.c (.d (.v (.int .u8 122))))), [], (.new [])⟩,
   ⟨(some 8), none, .pick (.t 5) (.t 7) (kB false), [], (.new [])⟩,
   ⟨(some 9), none, .mv (.t 8), [], (.new [])⟩,
   ⟨(some 10), (some (9, false)), .mv (.t 0), [], (.new [])⟩,
   ⟨(some 11), (some (9, false)), .bin .geq (.t 10) (.k (.c (.d (.v (.int .u8 48))))), [], (.new [])⟩,
   ⟨(some 12), (some (9, false)), .mv (.t 11), [], (.new [])⟩,
   ⟨(some 13), (some (12, true)), .mv (.t 0), [], (.new [])⟩,
   ⟨(some 14), (some (12, true)), .bin .leq (.t 13) (.k (.c (.d (.v (.int .u8 57))))), [], (.new [])⟩,
   ⟨(some 15), (some (9, false)), .pick (.t 12) (.t 14) (kB false), [], (.new [])⟩,
   ⟨(some 16), none, .pick (.t 9) (kB true) (.t 15), [], (.new [])⟩,
   ⟨(some 17), none, .mv (.t 16), [], (.new [])⟩,
   ⟨(some 18), (some (17, false)), .mv (.t 0), [], (.new [])⟩,
   ⟨(some 19), (some (17, false)), .bin .eql (.t 18) (.k (.c (.d (.v (.int .u8 45))))), [], (.new [])⟩,
   ⟨(some 20), none, .pick (.t 17) (kB true) (.t 19), [], (.new [])⟩,
   ⟨(some 21), none, .mv (.t 20), [], (.new [])⟩,
   ⟨(some 22), (some (21, false)), .mv (.t 0), [], (.new [])⟩,
   ⟨(some 23), (some (21, false)), .bin .eql (.t 22) (.k (.c (.d (.v (.int .u8 46))))), [], (.new [])⟩,
   ⟨(some 24), none, .pick (.t 21) (kB true) (.t 23), [], (.new [])⟩,
   ⟨(some 25), none, .mv (.t 24), [], (.new [])⟩,
   ⟨(some 26), (some (25, false)), .mv (.t 0), [], (.new [])⟩,
   ⟨(some 27), (some (25, false)), .bin .eql (.t 26) (.k (.c (.d (.v (.int .u8 47))))), [], (.new [])⟩,
   ⟨(some 28), none, .pick (.t 25) (kB true) (.t 27), [], (.new [])⟩,
   ⟨(some 2), none, .mv (.t 28), [], (.new [])⟩]))
 .ret))⟩
theorem a52_ok : afn Try.prog 52 = some a52.er := by kernel_rfl
theorem F52_ok {x0 : Int} {r : Bool} (h : F52 x0 = some r) : CallD Try.prog 52 [.c (.d (.v (.int .u8 x0)))] [] (tupV [.c (.d (.v (.bool r)))]) [] := by
  refine callS a52_ok (by simp [a52]) ?_
  rw [F52] at h
  simp only [a52, VW.down, Nat.reduceEqDiff, reduceCtorEq, Nat.reduceAdd, Nat.reduceLeDiff, Nat.reduceLT, Nat.reduceBEq, Nat.reduceSub, EE.down]
  obtain ⟨o1, ho, h⟩ := Option.bind_eq_some_iff.1 h
  refine cutS (fun s => s = ⟨[(2, .one (.c (.d (.v (.bool o1)))))], []⟩) ?_ ?_
  · have h := ho
    clear ho
    simp only [VW.down, Nat.reduceEqDiff, reduceCtorEq, Nat.reduceAdd, Nat.reduceLeDiff, Nat.reduceLT, Nat.reduceBEq, Nat.reduceSub, EE.down]
    refine guardS (fun g2 => ?_) (fun g2 => ?_)
    · have h := (if_pos g2).symm.trans h
      simp only [VW.down, Nat.reduceEqDiff, reduceCtorEq, Nat.reduceAdd, Nat.reduceLeDiff, Nat.reduceLT, Nat.reduceBEq, Nat.reduceSub, EE.down]
      refine guardS (fun g3 => ?_) (fun g3 => ?_)
      · have h := (if_pos g3).symm.trans h
        simp only [VW.down, Nat.reduceEqDiff, reduceCtorEq, Nat.reduceAdd, Nat.reduceLeDiff, Nat.reduceLT, Nat.reduceBEq, Nat.reduceSub, EE.down]
        obtain rfl := Option.some.inj h
        exact eM [] rfl
      · have h := (if_neg g3).symm.trans h
        simp only [VW.down, Nat.reduceEqDiff, reduceCtorEq, Nat.reduceAdd, Nat.reduceLeDiff, Nat.reduceLT, Nat.reduceBEq, Nat.reduceSub, EE.down]
        refine guardS (fun g4 => ?_) (fun g4 => ?_)
        · have h := (if_pos g4).symm.trans h
          simp only [VW.down, Nat.reduceEqDiff, reduceCtorEq, Nat.reduceAdd, Nat.reduceLeDiff, Nat.reduceLT, Nat.reduceBEq, Nat.reduceSub, EE.down]
          refine guardS (fun g5 => ?_) (fun g5 => ?_)
          · have h := (if_pos g5).symm.trans h
            simp only [VW.down, Nat.reduceEqDiff, reduceCtorEq, Nat.reduceAdd, Nat.reduceLeDiff, Nat.reduceLT, Nat.reduceBEq, Nat.reduceSub, EE.down]
            obtain rfl := Option.some.inj h
            exact eM [] rfl
          · have h := (if_neg g5).symm.trans h
            simp only [VW.down, Nat.reduceEqDiff, reduceCtorEq, Nat.reduceAdd, Nat.reduceLeDiff, Nat.reduceLT, Nat.reduceBEq, Nat.reduceSub, EE.down]
            refine guardS (fun g6 => ?_) (fun g6 => ?_)
            · have h := (if_pos g6).symm.trans h
              simp only [VW.down, Nat.reduceEqDiff, reduceCtorEq, Nat.reduceAdd, Nat.reduceLeDiff, Nat.reduceLT, Nat.reduceBEq, Nat.reduceSub, EE.down]
              obtain rfl := Option.some.inj h
              exact eM [] rfl
            · have h := (if_neg g6).symm.trans h
              simp only [VW.down, Nat.reduceEqDiff, reduceCtorEq, Nat.reduceAdd, Nat.reduceLeDiff, Nat.reduceLT, Nat.reduceBEq, Nat.reduceSub, EE.down]
              refine guardS (fun g7 => ?_) (fun g7 => ?_)
              · have h := (if_pos g7).symm.trans h
                simp only [VW.down, Nat.reduceEqDiff, reduceCtorEq, Nat.reduceAdd, Nat.reduceLeDiff, Nat.reduceLT, Nat.reduceBEq, Nat.reduceSub, EE.down]
                obtain rfl := Option.some.inj h
                exact eM [] rfl
              · have h := (if_neg g7).symm.trans h
                simp only [VW.down, Nat.reduceEqDiff, reduceCtorEq, Nat.reduceAdd, Nat.reduceLeDiff, Nat.reduceLT, Nat.reduceBEq, Nat.reduceSub, EE.down]
                obtain rfl := Option.some.inj h
                exact eM [] rfl
        · have h := (if_neg g4).symm.trans h
          simp only [VW.down, Nat.reduceEqDiff, reduceCtorEq, Nat.reduceAdd, Nat.reduceLeDiff, Nat.reduceLT, Nat.reduceBEq, Nat.reduceSub, EE.down]
          refine guardS (fun g8 => ?_) (fun g8 => ?_)
          · have h := (if_pos g8).symm.trans h
            simp only [VW.down, Nat.reduceEqDiff, reduceCtorEq, Nat.reduceAdd, Nat.reduceLeDiff, Nat.reduceLT, Nat.reduceBEq, Nat.reduceSub, EE.down]
            obtain rfl := Option.some.inj h
            exact eM [] rfl
          · have h := (if_neg g8).symm.trans h
            simp only [VW.down, Nat.reduceEqDiff, reduceCtorEq, Nat.reduceAdd, Nat.reduceLeDiff, Nat.reduceLT, Nat.reduceBEq, Nat.reduceSub, EE.down]
            refine guardS (fun g9 => ?_) (fun g9 => ?_)
            · have h := (if_pos g9).symm.trans h
              simp only [VW.down, Nat.reduceEqDiff, reduceCtorEq, Nat.reduceAdd, Nat.reduceLeDiff, Nat.reduceLT, Nat.reduceBEq, Nat.reduceSub, EE.down]
              obtain rfl := Option.some.inj h
              exact eM [] rfl
            · have h := (if_neg g9).symm.trans h
              simp only [VW.down, Nat.reduceEqDiff, reduceCtorEq, Nat.reduceAdd, Nat.reduceLeDiff, Nat.reduceLT, Nat.reduceBEq, Nat.reduceSub, EE.down]
              obtain rfl := Option.some.inj h
              exact eM [] rfl
    · have h := (if_neg g2).symm.trans h
      simp only [VW.down, Nat.reduceEqDiff, reduceCtorEq, Nat.reduceAdd, Nat.reduceLeDiff, Nat.reduceLT, Nat.reduceBEq, Nat.reduceSub, EE.down]
      refine guardS (fun g10 => ?_) (fun g10 => ?_)
      · have h := (if_pos g10).symm.trans h
        simp only [VW.down, Nat.reduceEqDiff, reduceCtorEq, Nat.reduceAdd, Nat.reduceLeDiff, Nat.reduceLT, Nat.reduceBEq, Nat.reduceSub, EE.down]
        refine guardS (fun g11 => ?_) (fun g11 => ?_)
        · have h := (if_pos g11).symm.trans h
          simp only [VW.down, Nat.reduceEqDiff, reduceCtorEq, Nat.reduceAdd, Nat.reduceLeDiff, Nat.reduceLT, Nat.reduceBEq, Nat.reduceSub, EE.down]
          obtain rfl := Option.some.inj h
          exact eM [] rfl
        · have h := (if_neg g11).symm.trans h
          simp only [VW.down, Nat.reduceEqDiff, reduceCtorEq, Nat.reduceAdd, Nat.reduceLeDiff, Nat.reduceLT, Nat.reduceBEq, Nat.reduceSub, EE.down]
          refine guardS (fun g12 => ?_) (fun g12 => ?_)
          · have h := (if_pos g12).symm.trans h
            simp only [VW.down, Nat.reduceEqDiff, reduceCtorEq, Nat.reduceAdd, Nat.reduceLeDiff, Nat.reduceLT, Nat.reduceBEq, Nat.reduceSub, EE.down]
            obtain rfl := Option.some.inj h
            exact eM [] rfl
          · have h := (if_neg g12).symm.trans h
            simp only [VW.down, Nat.reduceEqDiff, reduceCtorEq, Nat.reduceAdd, Nat.reduceLeDiff, Nat.reduceLT, Nat.reduceBEq, Nat.reduceSub, EE.down]
            refine guardS (fun g13 => ?_) (fun g13 => ?_)
            · have h := (if_pos g13).symm.trans h
              simp only [VW.down, Nat.reduceEqDiff, reduceCtorEq, Nat.reduceAdd, Nat.reduceLeDiff, Nat.reduceLT, Nat.reduceBEq, Nat.reduceSub, EE.down]
              obtain rfl := Option.some.inj h
              exact eM [] rfl
            · have h := (if_neg g13).symm.trans h
              simp only [VW.down, Nat.reduceEqDiff, reduceCtorEq, Nat.reduceAdd, Nat.reduceLeDiff, Nat.reduceLT, Nat.reduceBEq, Nat.reduceSub, EE.down]
              obtain rfl := Option.some.inj h
              exact eM [] rfl
      · have h := (if_neg g10).symm.trans h
        simp only [VW.down, Nat.reduceEqDiff, reduceCtorEq, Nat.reduceAdd, Nat.reduceLeDiff, Nat.reduceLT, Nat.reduceBEq, Nat.reduceSub, EE.down]
        refine guardS (fun g14 => ?_) (fun g14 => ?_)
        · have h := (if_pos g14).symm.trans h
          simp only [VW.down, Nat.reduceEqDiff, reduceCtorEq, Nat.reduceAdd, Nat.reduceLeDiff, Nat.reduceLT, Nat.reduceBEq, Nat.reduceSub, EE.down]
          obtain rfl := Option.some.inj h
          exact eM [] rfl
        · have h := (if_neg g14).symm.trans h
          simp only [VW.down, Nat.reduceEqDiff, reduceCtorEq, Nat.reduceAdd, Nat.reduceLeDiff, Nat.reduceLT, Nat.reduceBEq, Nat.reduceSub, EE.down]
          refine guardS (fun g15 => ?_) (fun g15 => ?_)
          · have h := (if_pos g15).symm.trans h
            simp only [VW.down, Nat.reduceEqDiff, reduceCtorEq, Nat.reduceAdd, Nat.reduceLeDiff, Nat.reduceLT, Nat.reduceBEq, Nat.reduceSub, EE.down]
            obtain rfl := Option.some.inj h
            exact eM [] rfl
          · have h := (if_neg g15).symm.trans h
            simp only [VW.down, Nat.reduceEqDiff, reduceCtorEq, Nat.reduceAdd, Nat.reduceLeDiff, Nat.reduceLT, Nat.reduceBEq, Nat.reduceSub, EE.down]
            obtain rfl := Option.some.inj h
            exact eM [] rfl
  · rintro _ rfl
    clear ho
    simp only [VW.down, Nat.reduceEqDiff, reduceCtorEq, Nat.reduceAdd, Nat.reduceLeDiff, Nat.reduceLT, Nat.reduceBEq, Nat.reduceSub, EE.down]
    obtain rfl := Option.some.inj h
    exact eF []

/- orchestrator/orchestratorref03.ValidKey -/
def F31_l8 (x0 : ByteArray) : Nat → Int → Option ((Bool) ⊕ (Unit))
  | 0, _ => none
  | k + 1, o8_0 => (if o8_0 < (x0.size : Int) then (byI x0 o8_0).bind fun y10 => (F52 y10).bind fun t11 => (if (nb t11) = true then (some false).map Sum.inl else F31_l8 x0 k ((IntKind.i64.wrap (o8_0 + 1)))) else some (Sum.inr (())))
def F31 (x0 : ByteArray) : Option (Bool) := (((if (x0.size : Int) < 1 then some true else (if 40 < (x0.size : Int) then some true else (byI x0 0).bind fun y4 => (if y4 < 97 then some true else (byI x0 0).bind fun y6 => some (decide (122 < y6)))))).bind fun o1 => (if o1 = true then some false else ((F31_l8 x0 1099511627776 0 : Option ((Bool) ⊕ (Unit))).bind fun o8 => match o8 with | Sum.inl f => some f | Sum.inr po8 => some true)))
def a31 : AFn := ⟨33, [(.tmp 2)],
 (.seq (.reg [⟨(some 2), none, .mv (kB false), [], (.new [])⟩])
 (.seq (.seq (.sem (.reg [⟨(some 4), none, .mv (.t 0), [], (.new [])⟩,
   ⟨(some 5), none, .slen (.t 4), [], (.new [])⟩,
   ⟨(some 6), none, .bin .lss (.t 5) (kI 1), [], (.new [])⟩,
   ⟨(some 7), none, .mv (.t 6), [], (.new [])⟩,
   ⟨(some 8), (some (7, false)), .mv (.t 0), [], (.new [])⟩,
   ⟨(some 9), (some (7, false)), .slen (.t 8), [], (.new [])⟩,
   ⟨(some 10), (some (7, false)), .bin .gtr (.t 9) (kI 40), [], (.new [])⟩,
   ⟨(some 11), none, .pick (.t 7) (kB true) (.t 10), [], (.new [])⟩,
   ⟨(some 12), none, .mv (.t 11), [], (.new [])⟩,
   ⟨(some 13), (some (12, false)), .mv (.t 0), [], (.new [])⟩,
   ⟨(some 14), (some (12, false)), .sidx (.t 13) (kI 0), [], (.new [])⟩,
   ⟨(some 15), (some (12, false)), .bin .lss (.t 14) (.k (.c (.d (.v (.int .u8 97))))), [], (.new [])⟩,
   ⟨(some 16), none, .pick (.t 12) (kB true) (.t 15), [], (.new [])⟩,
   ⟨(some 17), none, .mv (.t 16), [], (.new [])⟩,
   ⟨(some 18), (some (17, false)), .mv (.t 0), [], (.new [])⟩,
   ⟨(some 19), (some (17, false)), .sidx (.t 18) (kI 0), [], (.new [])⟩,
   ⟨(some 20), (some (17, false)), .bin .gtr (.t 19) (.k (.c (.d (.v (.int .u8 122))))), [], (.new [])⟩,
   ⟨(some 21), none, .pick (.t 17) (kB true) (.t 20), [], (.new [])⟩]))
 (.cond (.t 21)
 (.seq (.reg [⟨(some 2), none, .mv (kB false), [], (.new [])⟩])
 .ret)
 .skip))
 (.seq (.seq (.reg [⟨(some 3), none, .mv (kI 0), [], (.new [])⟩])
 (.sem (.block 0 (.loop (.seq (.seq (.reg [⟨(some 22), none, .mv (.t 3), [], (.new [])⟩,
   ⟨(some 23), none, .mv (.t 0), [], (.new [])⟩,
   ⟨(some 24), none, .slen (.t 23), [], (.new [])⟩,
   ⟨(some 25), none, .bin .lss (.t 22) (.t 24), [], (.new [])⟩])
 (.cond (.t 25)
 .skip
 (.exit 0)))
 (.seq (.block 1 (.seq (.reg [⟨(some 28), none, .mv (.t 0), [], (.new [])⟩,
   ⟨(some 29), none, .mv (.t 3), [], (.new [])⟩,
   ⟨(some 30), none, .sidx (.t 28) (.t 29), [], (.new [])⟩,
   ⟨(some 31), none, .call 52 [(.t 30)], [], (.new [])⟩,
   ⟨(some 32), none, .not (.t 31), [], (.new [])⟩])
 (.cond (.t 32)
 (.seq (.reg [⟨(some 2), none, .mv (kB false), [], (.new [])⟩])
 .ret)
 .skip)))
 (.reg [⟨(some 26), none, .mv (.t 3), [], (.new [])⟩,
   ⟨(some 27), none, .bin .add (.t 26) (kI 1), [], (.new [])⟩,
   ⟨(some 3), none, .mv (.t 27), [], (.new [])⟩])))))))
 (.seq (.reg [⟨(some 2), none, .mv (kB true), [], (.new [])⟩])
 .ret))))⟩
theorem a31_ok : afn Try.prog 31 = some a31.er := by kernel_rfl
theorem F31_ok {x0 : ByteArray} {r : Bool} (h : F31 x0 = some r) : CallD Try.prog 31 [.c (.d (.v (.string x0)))] [] (tupV [.c (.d (.v (.bool r)))]) [] := by
  refine callS a31_ok (by simp [a31]) ?_
  rw [F31] at h
  simp only [a31, VW.down, Nat.reduceEqDiff, reduceCtorEq, Nat.reduceAdd, Nat.reduceLeDiff, Nat.reduceLT, Nat.reduceBEq, Nat.reduceSub, EE.down]
  obtain ⟨o1, ho, h⟩ := Option.bind_eq_some_iff.1 h
  refine cutS (fun s => s = ⟨[(0, .one (.c (.d (.v (.string x0))))), (21, .one (.c (.d (.v (.bool o1)))))], []⟩) ?_ ?_
  · have h := ho
    clear ho
    simp only [VW.down, Nat.reduceEqDiff, reduceCtorEq, Nat.reduceAdd, Nat.reduceLeDiff, Nat.reduceLT, Nat.reduceBEq, Nat.reduceSub, EE.down]
    refine guardS (fun g2 => ?_) (fun g2 => ?_)
    · have h := (if_pos g2).symm.trans h
      simp only [VW.down, Nat.reduceEqDiff, reduceCtorEq, Nat.reduceAdd, Nat.reduceLeDiff, Nat.reduceLT, Nat.reduceBEq, Nat.reduceSub, EE.down]
      obtain rfl := Option.some.inj h
      exact eM [] rfl
    · have h := (if_neg g2).symm.trans h
      simp only [VW.down, Nat.reduceEqDiff, reduceCtorEq, Nat.reduceAdd, Nat.reduceLeDiff, Nat.reduceLT, Nat.reduceBEq, Nat.reduceSub, EE.down]
      refine guardS (fun g3 => ?_) (fun g3 => ?_)
      · have h := (if_pos g3).symm.trans h
        simp only [VW.down, Nat.reduceEqDiff, reduceCtorEq, Nat.reduceAdd, Nat.reduceLeDiff, Nat.reduceLT, Nat.reduceBEq, Nat.reduceSub, EE.down]
        obtain rfl := Option.some.inj h
        exact eM [] rfl
      · have h := (if_neg g3).symm.trans h
        simp only [VW.down, Nat.reduceEqDiff, reduceCtorEq, Nat.reduceAdd, Nat.reduceLeDiff, Nat.reduceLT, Nat.reduceBEq, Nat.reduceSub, EE.down]
        obtain ⟨y4, hy4, h⟩ := Option.bind_eq_some_iff.1 h
        refine t_sidx rfl rfl hy4 ?_
        simp only [VW.down, Nat.reduceEqDiff, reduceCtorEq, Nat.reduceAdd, Nat.reduceLeDiff, Nat.reduceLT, Nat.reduceBEq, Nat.reduceSub, EE.down]
        refine guardS (fun g5 => ?_) (fun g5 => ?_)
        · have h := (if_pos g5).symm.trans h
          simp only [VW.down, Nat.reduceEqDiff, reduceCtorEq, Nat.reduceAdd, Nat.reduceLeDiff, Nat.reduceLT, Nat.reduceBEq, Nat.reduceSub, EE.down]
          obtain rfl := Option.some.inj h
          exact eM [] rfl
        · have h := (if_neg g5).symm.trans h
          simp only [VW.down, Nat.reduceEqDiff, reduceCtorEq, Nat.reduceAdd, Nat.reduceLeDiff, Nat.reduceLT, Nat.reduceBEq, Nat.reduceSub, EE.down]
          obtain ⟨y6, hy6, h⟩ := Option.bind_eq_some_iff.1 h
          refine t_sidx rfl rfl hy6 ?_
          simp only [VW.down, Nat.reduceEqDiff, reduceCtorEq, Nat.reduceAdd, Nat.reduceLeDiff, Nat.reduceLT, Nat.reduceBEq, Nat.reduceSub, EE.down]
          obtain rfl := Option.some.inj h
          exact eM [] rfl
  · rintro _ rfl
    clear ho
    simp only [VW.down, Nat.reduceEqDiff, reduceCtorEq, Nat.reduceAdd, Nat.reduceLeDiff, Nat.reduceLT, Nat.reduceBEq, Nat.reduceSub, EE.down]
    refine condB (fun c7 => ?_) (fun c7 => ?_)
    · have h := (if_pos c7).symm.trans h
      simp only [VW.down, Nat.reduceEqDiff, reduceCtorEq, Nat.reduceAdd, Nat.reduceLeDiff, Nat.reduceLT, Nat.reduceBEq, Nat.reduceSub, EE.down]
      obtain rfl := Option.some.inj h
      exact eF []
    · have h := (if_neg c7).symm.trans h
      simp only [VW.down, Nat.reduceEqDiff, reduceCtorEq, Nat.reduceAdd, Nat.reduceLeDiff, Nat.reduceLT, Nat.reduceBEq, Nat.reduceSub, EE.down]
      obtain ⟨o8, ho, h⟩ := Option.bind_eq_some_iff.1 h
      refine cutS (fun s => ∃ po8, o8 = Sum.inr po8 ∧ s = ⟨[], []⟩) ?_ ?_
      · have h0o8 := h
        have h := ho
        clear ho
        simp only [VW.down, Nat.reduceEqDiff, reduceCtorEq, Nat.reduceAdd, Nat.reduceLeDiff, Nat.reduceLT, Nat.reduceBEq, Nat.reduceSub, EE.down]
        refine bL (fun j s => ∃ (o8_0 : Int), s = ⟨[(0, .one (.c (.d (.v (.string x0))))), (3, .one (.c (.d (.v (.int .i64 o8_0)))))], []⟩ ∧ F31_l8 x0 j o8_0 = some o8) 1099511627776 [] ⟨0, rfl, h⟩ ?_
        rintro j _ ⟨o8_0, rfl, h⟩
        cases j with
        | zero => cases (show (none : Option _) = some _ from h)
        | succ j =>
          rw [F31_l8] at h
          simp only [VW.down, Nat.reduceEqDiff, reduceCtorEq, Nat.reduceAdd, Nat.reduceLeDiff, Nat.reduceLT, Nat.reduceBEq, Nat.reduceSub, EE.down]
          refine condS (fun c9 => ?_) (fun c9 => ?_)
          · have h := (if_pos c9).symm.trans h
            simp only [VW.down, Nat.reduceEqDiff, reduceCtorEq, Nat.reduceAdd, Nat.reduceLeDiff, Nat.reduceLT, Nat.reduceBEq, Nat.reduceSub, EE.down]
            obtain ⟨y10, hy10, h⟩ := Option.bind_eq_some_iff.1 h
            refine t_sidx rfl rfl hy10 ?_
            simp only [VW.down, Nat.reduceEqDiff, reduceCtorEq, Nat.reduceAdd, Nat.reduceLeDiff, Nat.reduceLT, Nat.reduceBEq, Nat.reduceSub, EE.down]
            obtain ⟨t11, ht11, h⟩ := Option.bind_eq_some_iff.1 h
            refine callX_n [] (F52_ok ht11) ?_ ?_ ?_ ?_ ?_ ?_
            · first | rfl | simp [nrmA, nrmC, nrm, A1.ren, C.ren, rn, List.length_set]
            · simp [liveAll, A1.live, C.live]
            · rfl
            · decide
            · exact trivial
            simp only [VW.down, Nat.reduceEqDiff, reduceCtorEq, Nat.reduceAdd, Nat.reduceLeDiff, Nat.reduceLT, Nat.reduceBEq, Nat.reduceSub, EE.down]
            refine condB (fun c12 => ?_) (fun c12 => ?_)
            · have h := (if_pos c12).symm.trans h
              simp only [VW.down, Nat.reduceEqDiff, reduceCtorEq, Nat.reduceAdd, Nat.reduceLeDiff, Nat.reduceLT, Nat.reduceBEq, Nat.reduceSub, EE.down]
              obtain ⟨fh0o8, hfh0o8, rfl⟩ := Option.map_eq_some_iff.1 h
              have h := hfh0o8.trans h0o8
              obtain rfl := Option.some.inj h
              exact eF []
            · have h := (if_neg c12).symm.trans h
              simp only [VW.down, Nat.reduceEqDiff, reduceCtorEq, Nat.reduceAdd, Nat.reduceLeDiff, Nat.reduceLT, Nat.reduceBEq, Nat.reduceSub, EE.down]
              exact eL' j [] ⟨(IntKind.i64.wrap (o8_0 + 1)), rfl, h⟩ (Nat.lt_succ_self _)
          · have h := (if_neg c9).symm.trans h
            simp only [VW.down, Nat.reduceEqDiff, reduceCtorEq, Nat.reduceAdd, Nat.reduceLeDiff, Nat.reduceLT, Nat.reduceBEq, Nat.reduceSub, EE.down]
            obtain rfl := Option.some.inj h
            exact eM [] ⟨_, rfl, rfl⟩
      · rintro _ ⟨po8, rfl, rfl⟩
        clear ho
        dsimp only at h
        simp only [VW.down, Nat.reduceEqDiff, reduceCtorEq, Nat.reduceAdd, Nat.reduceLeDiff, Nat.reduceLT, Nat.reduceBEq, Nat.reduceSub, EE.down]
        obtain rfl := Option.some.inj h
        exact eF []

/- orchestrator/orchestratorref03.ValidValue -/
def F32_l2 (x0 : ByteArray) : Nat → Int → Option ((Bool) ⊕ (Unit))
  | 0, _ => none
  | k + 1, o2_0 => (if o2_0 < (x0.size : Int) then (((byI x0 o2_0).bind fun y5 => (F52 y5).bind fun t6 => (if (nb t6) = true then some true else (byI x0 o2_0).bind fun y8 => some (decide (y8 = 47)))).bind fun o4 => (if o4 = true then (some false).map Sum.inl else F32_l2 x0 k ((IntKind.i64.wrap (o2_0 + 1))))) else some (Sum.inr (())))
def F32 (x0 : ByteArray) : Option (Bool) := (if 40 < (x0.size : Int) then some false else ((F32_l2 x0 1099511627776 0 : Option ((Bool) ⊕ (Unit))).bind fun o2 => match o2 with | Sum.inl f => some f | Sum.inr po2 => some true))
def a32 : AFn := ⟨24, [(.tmp 2)],
 (.seq (.reg [⟨(some 2), none, .mv (kB false), [], (.new [])⟩])
 (.seq (.seq (.reg [⟨(some 4), none, .mv (.t 0), [], (.new [])⟩,
   ⟨(some 5), none, .slen (.t 4), [], (.new [])⟩,
   ⟨(some 6), none, .bin .gtr (.t 5) (kI 40), [], (.new [])⟩])
 (.cond (.t 6)
 (.seq (.reg [⟨(some 2), none, .mv (kB false), [], (.new [])⟩])
 .ret)
 .skip))
 (.seq (.seq (.reg [⟨(some 3), none, .mv (kI 0), [], (.new [])⟩])
 (.sem (.block 0 (.loop (.seq (.seq (.reg [⟨(some 7), none, .mv (.t 3), [], (.new [])⟩,
   ⟨(some 8), none, .mv (.t 0), [], (.new [])⟩,
   ⟨(some 9), none, .slen (.t 8), [], (.new [])⟩,
   ⟨(some 10), none, .bin .lss (.t 7) (.t 9), [], (.new [])⟩])
 (.cond (.t 10)
 .skip
 (.exit 0)))
 (.seq (.block 1 (.seq (.sem (.reg [⟨(some 13), none, .mv (.t 0), [], (.new [])⟩,
   ⟨(some 14), none, .mv (.t 3), [], (.new [])⟩,
   ⟨(some 15), none, .sidx (.t 13) (.t 14), [], (.new [])⟩,
   ⟨(some 16), none, .call 52 [(.t 15)], [], (.new [])⟩,
   ⟨(some 17), none, .not (.t 16), [], (.new [])⟩,
   ⟨(some 18), none, .mv (.t 17), [], (.new [])⟩,
   ⟨(some 19), (some (18, false)), .mv (.t 0), [], (.new [])⟩,
   ⟨(some 20), (some (18, false)), .mv (.t 3), [], (.new [])⟩,
   ⟨(some 21), (some (18, false)), .sidx (.t 19) (.t 20), [], (.new [])⟩,
   ⟨(some 22), (some (18, false)), .bin .eql (.t 21) (.k (.c (.d (.v (.int .u8 47))))), [], (.new [])⟩,
   ⟨(some 23), none, .pick (.t 18) (kB true) (.t 22), [], (.new [])⟩]))
 (.cond (.t 23)
 (.seq (.reg [⟨(some 2), none, .mv (kB false), [], (.new [])⟩])
 .ret)
 .skip)))
 (.reg [⟨(some 11), none, .mv (.t 3), [], (.new [])⟩,
   ⟨(some 12), none, .bin .add (.t 11) (kI 1), [], (.new [])⟩,
   ⟨(some 3), none, .mv (.t 12), [], (.new [])⟩])))))))
 (.seq (.reg [⟨(some 2), none, .mv (kB true), [], (.new [])⟩])
 .ret))))⟩
theorem a32_ok : afn Try.prog 32 = some a32.er := by kernel_rfl
theorem F32_ok {x0 : ByteArray} {r : Bool} (h : F32 x0 = some r) : CallD Try.prog 32 [.c (.d (.v (.string x0)))] [] (tupV [.c (.d (.v (.bool r)))]) [] := by
  refine callS a32_ok (by simp [a32]) ?_
  rw [F32] at h
  simp only [a32, VW.down, Nat.reduceEqDiff, reduceCtorEq, Nat.reduceAdd, Nat.reduceLeDiff, Nat.reduceLT, Nat.reduceBEq, Nat.reduceSub, EE.down]
  refine condS (fun c1 => ?_) (fun c1 => ?_)
  · have h := (if_pos c1).symm.trans h
    simp only [VW.down, Nat.reduceEqDiff, reduceCtorEq, Nat.reduceAdd, Nat.reduceLeDiff, Nat.reduceLT, Nat.reduceBEq, Nat.reduceSub, EE.down]
    obtain rfl := Option.some.inj h
    exact eF []
  · have h := (if_neg c1).symm.trans h
    simp only [VW.down, Nat.reduceEqDiff, reduceCtorEq, Nat.reduceAdd, Nat.reduceLeDiff, Nat.reduceLT, Nat.reduceBEq, Nat.reduceSub, EE.down]
    obtain ⟨o2, ho, h⟩ := Option.bind_eq_some_iff.1 h
    refine cutS (fun s => ∃ po2, o2 = Sum.inr po2 ∧ s = ⟨[], []⟩) ?_ ?_
    · have h0o2 := h
      have h := ho
      clear ho
      simp only [VW.down, Nat.reduceEqDiff, reduceCtorEq, Nat.reduceAdd, Nat.reduceLeDiff, Nat.reduceLT, Nat.reduceBEq, Nat.reduceSub, EE.down]
      refine bL (fun j s => ∃ (o2_0 : Int), s = ⟨[(0, .one (.c (.d (.v (.string x0))))), (3, .one (.c (.d (.v (.int .i64 o2_0)))))], []⟩ ∧ F32_l2 x0 j o2_0 = some o2) 1099511627776 [] ⟨0, rfl, h⟩ ?_
      rintro j _ ⟨o2_0, rfl, h⟩
      cases j with
      | zero => cases (show (none : Option _) = some _ from h)
      | succ j =>
        rw [F32_l2] at h
        simp only [VW.down, Nat.reduceEqDiff, reduceCtorEq, Nat.reduceAdd, Nat.reduceLeDiff, Nat.reduceLT, Nat.reduceBEq, Nat.reduceSub, EE.down]
        refine condS (fun c3 => ?_) (fun c3 => ?_)
        · have h := (if_pos c3).symm.trans h
          simp only [VW.down, Nat.reduceEqDiff, reduceCtorEq, Nat.reduceAdd, Nat.reduceLeDiff, Nat.reduceLT, Nat.reduceBEq, Nat.reduceSub, EE.down]
          obtain ⟨o4, ho, h⟩ := Option.bind_eq_some_iff.1 h
          refine cutS (fun s => s = ⟨[(0, .one (.c (.d (.v (.string x0))))), (3, .one (.c (.d (.v (.int .i64 o2_0))))), (23, .one (.c (.d (.v (.bool o4)))))], []⟩) ?_ ?_
          · have h := ho
            clear ho
            simp only [VW.down, Nat.reduceEqDiff, reduceCtorEq, Nat.reduceAdd, Nat.reduceLeDiff, Nat.reduceLT, Nat.reduceBEq, Nat.reduceSub, EE.down]
            obtain ⟨y5, hy5, h⟩ := Option.bind_eq_some_iff.1 h
            refine t_sidx rfl rfl hy5 ?_
            simp only [VW.down, Nat.reduceEqDiff, reduceCtorEq, Nat.reduceAdd, Nat.reduceLeDiff, Nat.reduceLT, Nat.reduceBEq, Nat.reduceSub, EE.down]
            obtain ⟨t6, ht6, h⟩ := Option.bind_eq_some_iff.1 h
            refine callX_n [] (F52_ok ht6) ?_ ?_ ?_ ?_ ?_ ?_
            · first | rfl | simp [nrmA, nrmC, nrm, A1.ren, C.ren, rn, List.length_set]
            · simp [liveAll, A1.live, C.live]
            · rfl
            · decide
            · exact trivial
            simp only [VW.down, Nat.reduceEqDiff, reduceCtorEq, Nat.reduceAdd, Nat.reduceLeDiff, Nat.reduceLT, Nat.reduceBEq, Nat.reduceSub, EE.down]
            refine guardSB (fun g7 => ?_) (fun g7 => ?_)
            · have h := (if_pos g7).symm.trans h
              simp only [VW.down, Nat.reduceEqDiff, reduceCtorEq, Nat.reduceAdd, Nat.reduceLeDiff, Nat.reduceLT, Nat.reduceBEq, Nat.reduceSub, EE.down]
              obtain rfl := Option.some.inj h
              exact eM [] rfl
            · have h := (if_neg g7).symm.trans h
              simp only [VW.down, Nat.reduceEqDiff, reduceCtorEq, Nat.reduceAdd, Nat.reduceLeDiff, Nat.reduceLT, Nat.reduceBEq, Nat.reduceSub, EE.down]
              obtain ⟨y8, hy8, h⟩ := Option.bind_eq_some_iff.1 h
              refine t_sidx rfl rfl hy8 ?_
              simp only [VW.down, Nat.reduceEqDiff, reduceCtorEq, Nat.reduceAdd, Nat.reduceLeDiff, Nat.reduceLT, Nat.reduceBEq, Nat.reduceSub, EE.down]
              obtain rfl := Option.some.inj h
              exact eM [] rfl
          · rintro _ rfl
            clear ho
            simp only [VW.down, Nat.reduceEqDiff, reduceCtorEq, Nat.reduceAdd, Nat.reduceLeDiff, Nat.reduceLT, Nat.reduceBEq, Nat.reduceSub, EE.down]
            refine condB (fun c9 => ?_) (fun c9 => ?_)
            · have h := (if_pos c9).symm.trans h
              simp only [VW.down, Nat.reduceEqDiff, reduceCtorEq, Nat.reduceAdd, Nat.reduceLeDiff, Nat.reduceLT, Nat.reduceBEq, Nat.reduceSub, EE.down]
              obtain ⟨fh0o2, hfh0o2, rfl⟩ := Option.map_eq_some_iff.1 h
              have h := hfh0o2.trans h0o2
              obtain rfl := Option.some.inj h
              exact eF []
            · have h := (if_neg c9).symm.trans h
              simp only [VW.down, Nat.reduceEqDiff, reduceCtorEq, Nat.reduceAdd, Nat.reduceLeDiff, Nat.reduceLT, Nat.reduceBEq, Nat.reduceSub, EE.down]
              exact eL' j [] ⟨(IntKind.i64.wrap (o2_0 + 1)), rfl, h⟩ (Nat.lt_succ_self _)
        · have h := (if_neg c3).symm.trans h
          simp only [VW.down, Nat.reduceEqDiff, reduceCtorEq, Nat.reduceAdd, Nat.reduceLeDiff, Nat.reduceLT, Nat.reduceBEq, Nat.reduceSub, EE.down]
          obtain rfl := Option.some.inj h
          exact eM [] ⟨_, rfl, rfl⟩
    · rintro _ ⟨po2, rfl, rfl⟩
      clear ho
      dsimp only at h
      simp only [VW.down, Nat.reduceEqDiff, reduceCtorEq, Nat.reduceAdd, Nat.reduceLeDiff, Nat.reduceLT, Nat.reduceBEq, Nat.reduceSub, EE.down]
      obtain rfl := Option.some.inj h
      exact eF []

/- orchestrator/orchestratorref03.Valid -/
def F14_l2 (x0 : (List Label)) : List Label → Nat → Option ((Bool) ⊕ (Unit))
  | [], o2_0 => some (Sum.inr (()))
  | xo2 :: xs, o2_0 => (((F31 xo2.Key).bind fun t5 => (if (nb t5) = true then some true else (F32 xo2.Value).bind fun t7 => (if (nb t7) = true then some true else (if 0 < (o2_0 : Int) then (rdI x0 ((IntKind.i64.wrap (((o2_0 : Int)) - 1)))).bind fun y10 => some (nb (Op.bytesLess y10.Key.toList xo2.Key.toList)) else some false)))).bind fun o4 => (if o4 = true then (some false).map Sum.inl else F14_l2 x0 xs (o2_0 + 1)))
def F14 (x0 : (List Label)) : Option (Bool) := (if 16 < (x0.length : Int) then some false else (((ck (0 ≤ x0.length ∧ x0.length ≤ 4294967290)).bind fun u12 => F14_l2 x0 x0 0 : Option ((Bool) ⊕ (Unit))).bind fun o2 => match o2 with | Sum.inl f => some f | Sum.inr po2 => some true))
def a14 : AFn := ⟨47, [(.tmp 2)],
 (.seq (.reg [⟨(some 2), none, .mv (kB false), [], (.new [])⟩])
 (.seq (.seq (.reg [⟨(some 4), none, .mv (.t 0), [], (.new [])⟩,
   ⟨(some 5), none, .len (.t 4), [], (.new [])⟩,
   ⟨(some 6), none, .bin .gtr (.t 5) (kI 16), [], (.new [])⟩])
 (.cond (.t 6)
 (.seq (.reg [⟨(some 2), none, .mv (kB false), [], (.new [])⟩])
 .ret)
 .skip))
 (.seq (.seq (.reg [⟨(some 3), none, .mv (kI 0), [], (.new [])⟩])
 (.sem (.block 0 (.loop (.seq (.seq (.reg [⟨(some 7), none, .mv (.t 3), [], (.new [])⟩,
   ⟨(some 8), none, .mv (.t 0), [], (.new [])⟩,
   ⟨(some 9), none, .len (.t 8), [], (.new [])⟩,
   ⟨(some 10), none, .bin .lss (.t 7) (.t 9), [], (.new [])⟩])
 (.cond (.t 10)
 .skip
 (.exit 0)))
 (.seq (.block 1 (.seq (.sem (.regd [⟨(some 13), none, .mv (.t 0), [], (.new [])⟩,
   ⟨(some 14), none, .mv (.t 3), [], (.new [])⟩,
   ⟨(some 15), none, .indexA 2 (.t 13) (.t 14), [0, 1], (.new [])⟩,
   ⟨(some 16), none, .fieldA 0 (.t 15), [0, 1, 2], (.new [])⟩,
   ⟨(some 17), none, .load none (.t 16), [0, 1, 2, 3], (.new [])⟩,
   ⟨(some 18), none, .call 31 [(.t 17)], [0, 1, 2, 3, 4], (.lone [])⟩,
   ⟨(some 19), none, .not (.t 18), [0, 1, 2, 3, 4, 5], (.new [])⟩,
   ⟨(some 20), none, .mv (.t 19), [0, 1, 2, 3, 4, 5, 6], (.new [])⟩,
   ⟨(some 21), (some (20, false)), .mv (.t 0), [0, 1, 2, 3, 4, 5, 6, 7], (.new [])⟩,
   ⟨(some 22), (some (20, false)), .mv (.t 3), [0, 1, 2, 3, 4, 5, 6, 7], (.new [])⟩,
   ⟨(some 23), (some (20, false)), .indexA 2 (.t 21) (.t 22), [0, 1, 2, 3, 4, 5, 6, 7, 8, 9], (.new [])⟩,
   ⟨(some 24), (some (20, false)), .fieldA 1 (.t 23), [0, 1, 2, 3, 4, 5, 6, 7, 8, 9, 10], (.new [])⟩,
   ⟨(some 25), (some (20, false)), .load none (.t 24), [0, 1, 2, 3, 4, 5, 6, 7, 8, 9, 10, 11], (.new [])⟩,
   ⟨(some 26), (some (20, false)), .call 32 [(.t 25)], [0, 1, 2, 3, 4, 5, 6, 7, 8, 9, 10, 11, 12], (.lone [])⟩,
   ⟨(some 27), (some (20, false)), .not (.t 26), [0, 1, 2, 3, 4, 5, 6, 7, 8, 9, 10, 11, 12, 13], (.new [])⟩,
   ⟨(some 28), none, .pick (.t 20) (kB true) (.t 27), [0, 1, 2, 3, 4, 5, 6, 7, 8, 9, 10, 11, 12, 13, 14], (.lone [])⟩,
   ⟨(some 29), none, .mv (.t 28), [0, 1, 2, 3, 4, 5, 6, 7, 8, 9, 10, 11, 12, 13, 14, 15], (.new [])⟩,
   ⟨(some 30), (some (29, false)), .mv (.t 3), [0, 1, 2, 3, 4, 5, 6, 7, 8, 9, 10, 11, 12, 13, 14, 15, 16], (.new [])⟩,
   ⟨(some 31), (some (29, false)), .bin .gtr (.t 30) (kI 0), [0, 1, 2, 3, 4, 5, 6, 7, 8, 9, 10, 11, 12, 13, 14, 15, 16, 17], (.new [])⟩,
   ⟨(some 32), (some (29, false)), .mv (.t 31), [0, 1, 2, 3, 4, 5, 6, 7, 8, 9, 10, 11, 12, 13, 14, 15, 16, 17, 18], (.new [])⟩,
   ⟨(some 33), (some (32, true)), .mv (.t 0), [0, 1, 2, 3, 4, 5, 6, 7, 8, 9, 10, 11, 12, 13, 14, 15, 16, 17, 18, 19], (.new [])⟩,
   ⟨(some 34), (some (32, true)), .mv (.t 3), [0, 1, 2, 3, 4, 5, 6, 7, 8, 9, 10, 11, 12, 13, 14, 15, 16, 17, 18, 19], (.new [])⟩,
   ⟨(some 35), (some (32, true)), .bin .sub (.t 34) (kI 1), [0, 1, 2, 3, 4, 5, 6, 7, 8, 9, 10, 11, 12, 13, 14, 15, 16, 17, 18, 19, 21], (.new [])⟩,
   ⟨(some 36), (some (32, true)), .indexA 2 (.t 33) (.t 35), [0, 1, 2, 3, 4, 5, 6, 7, 8, 9, 10, 11, 12, 13, 14, 15, 16, 17, 18, 19, 20, 21, 22], (.new [])⟩,
   ⟨(some 37), (some (32, true)), .fieldA 0 (.t 36), [0, 1, 2, 3, 4, 5, 6, 7, 8, 9, 10, 11, 12, 13, 14, 15, 16, 17, 18, 19, 20, 21, 22, 23], (.new [])⟩,
   ⟨(some 38), (some (32, true)), .load none (.t 37), [0, 1, 2, 3, 4, 5, 6, 7, 8, 9, 10, 11, 12, 13, 14, 15, 16, 17, 18, 19, 20, 21, 22, 23, 24], (.new [])⟩,
   ⟨(some 39), (some (32, true)), .mv (.t 0), [0, 1, 2, 3, 4, 5, 6, 7, 8, 9, 10, 11, 12, 13, 14, 15, 16, 17, 18, 19], (.new [])⟩,
   ⟨(some 40), (some (32, true)), .mv (.t 3), [0, 1, 2, 3, 4, 5, 6, 7, 8, 9, 10, 11, 12, 13, 14, 15, 16, 17, 18, 19], (.new [])⟩,
   ⟨(some 41), (some (32, true)), .indexA 2 (.t 39) (.t 40), [0, 1, 2, 3, 4, 5, 6, 7, 8, 9, 10, 11, 12, 13, 14, 15, 16, 17, 18, 19, 26, 27], (.new [])⟩,
   ⟨(some 42), (some (32, true)), .fieldA 0 (.t 41), [0, 1, 2, 3, 4, 5, 6, 7, 8, 9, 10, 11, 12, 13, 14, 15, 16, 17, 18, 19, 26, 27, 28], (.new [])⟩,
   ⟨(some 43), (some (32, true)), .load none (.t 42), [0, 1, 2, 3, 4, 5, 6, 7, 8, 9, 10, 11, 12, 13, 14, 15, 16, 17, 18, 19, 26, 27, 28, 29], (.new [])⟩,
   ⟨(some 44), (some (32, true)), .bin .geq (.t 38) (.t 43), [0, 1, 2, 3, 4, 5, 6, 7, 8, 9, 10, 11, 12, 13, 14, 15, 16, 17, 18, 19, 20, 21, 22, 23, 24, 25, 26, 27, 28, 29, 30], (.new [])⟩,
   ⟨(some 45), (some (29, false)), .pick (.t 32) (.t 44) (kB false), [0, 1, 2, 3, 4, 5, 6, 7, 8, 9, 10, 11, 12, 13, 14, 15, 16, 17, 18, 19, 20, 21, 22, 23, 24, 25, 26, 27, 28, 29, 30, 31], (.lone [])⟩,
   ⟨(some 46), none, .pick (.t 29) (kB true) (.t 45), [0, 1, 2, 3, 4, 5, 6, 7, 8, 9, 10, 11, 12, 13, 14, 15, 16, 17, 18, 19, 20, 21, 22, 23, 24, 25, 26, 27, 28, 29, 30, 31, 32], (.lone [])⟩]))
 (.cond (.t 46)
 (.seq (.reg [⟨(some 2), none, .mv (kB false), [], (.new [])⟩])
 .ret)
 .skip)))
 (.reg [⟨(some 11), none, .mv (.t 3), [], (.new [])⟩,
   ⟨(some 12), none, .bin .add (.t 11) (kI 1), [], (.new [])⟩,
   ⟨(some 3), none, .mv (.t 12), [], (.new [])⟩])))))))
 (.seq (.reg [⟨(some 2), none, .mv (kB true), [], (.new [])⟩])
 .ret))))⟩
theorem a14_ok : afn Try.prog 14 = some a14.er := by kernel_rfl
theorem F14_ok {x0 : (List Label)} {r : Bool} (h : F14 x0 = some r) : CallD Try.prog 14 [.c (.d (.sl (x0.map eLabel)))] [] (tupV [.c (.d (.v (.bool r)))]) [] := by
  refine callS a14_ok (by simp [a14]) ?_
  rw [F14] at h
  simp only [a14, VW.down, Nat.reduceEqDiff, reduceCtorEq, Nat.reduceAdd, Nat.reduceLeDiff, Nat.reduceLT, Nat.reduceBEq, Nat.reduceSub, EE.down]
  refine condS (fun c1 => ?_) (fun c1 => ?_)
  · have h := (if_pos c1).symm.trans h
    simp only [VW.down, Nat.reduceEqDiff, reduceCtorEq, Nat.reduceAdd, Nat.reduceLeDiff, Nat.reduceLT, Nat.reduceBEq, Nat.reduceSub, EE.down]
    obtain rfl := Option.some.inj h
    exact eF []
  · have h := (if_neg c1).symm.trans h
    simp only [VW.down, Nat.reduceEqDiff, reduceCtorEq, Nat.reduceAdd, Nat.reduceLeDiff, Nat.reduceLT, Nat.reduceBEq, Nat.reduceSub, EE.down]
    obtain ⟨o2, ho, h⟩ := Option.bind_eq_some_iff.1 h
    refine cutS (fun s => ∃ po2, o2 = Sum.inr po2 ∧ s = ⟨[], []⟩) ?_ ?_
    · have h0o2 := h
      have h := ho
      clear ho
      obtain ⟨_, hk, h⟩ := Option.bind_eq_some_iff.1 h
      have hk := ck_some hk
      simp only [VW.down, Nat.reduceEqDiff, reduceCtorEq, Nat.reduceAdd, Nat.reduceLeDiff, Nat.reduceLT, Nat.reduceBEq, Nat.reduceSub, EE.down]
      refine bL (fun j s => ∃ (o2_0 : Nat), (o2_0 ≤ x0.length ∧ j = x0.length - o2_0) ∧ s = ⟨[(0, .one (.c (.d (.sl (x0.map eLabel))))), (3, .one (.c (.d (.v (.int .i64 ((o2_0 : Int)))))))], []⟩ ∧ F14_l2 x0 (x0.drop o2_0) o2_0 = some o2) (x0.length - 0) [] ⟨0, ⟨hk.1, rfl⟩, rfl, h⟩ ?_
      rintro _ _ ⟨o2_0, ⟨hi, rfl⟩, rfl, h⟩
      simp only [VW.down, Nat.reduceEqDiff, reduceCtorEq, Nat.reduceAdd, Nat.reduceLeDiff, Nat.reduceLT, Nat.reduceBEq, Nat.reduceSub, EE.down]
      refine condS (fun c3 => ?_) (fun c3 => ?_)
      · obtain ⟨xo2, hxo2, hd⟩ := countY (show (o2_0 : Int) < (x0.length : Int) from c3)
        rw [hd, F14_l2] at h
        simp only [VW.down, Nat.reduceEqDiff, reduceCtorEq, Nat.reduceAdd, Nat.reduceLeDiff, Nat.reduceLT, Nat.reduceBEq, Nat.reduceSub, EE.down]
        obtain ⟨o4, ho, h⟩ := Option.bind_eq_some_iff.1 h
        refine cutS (fun s => s = ⟨[(0, .one (.c (.d (.sl (x0.map eLabel))))), (3, .one (.c (.d (.v (.int .i64 ((o2_0 : Int))))))), (46, .one (.c (.d (.v (.bool o4)))))], []⟩) ?_ ?_
        · have h := ho
          clear ho
          simp only [VW.down, Nat.reduceEqDiff, reduceCtorEq, Nat.reduceAdd, Nat.reduceLeDiff, Nat.reduceLT, Nat.reduceBEq, Nat.reduceSub, EE.down]
          refine t_idxF (enc := eLabel) (xs := x0) rfl rfl hxo2 rfl ?_
          simp only [VW.down, Nat.reduceEqDiff, reduceCtorEq, Nat.reduceAdd, Nat.reduceLeDiff, Nat.reduceLT, Nat.reduceBEq, Nat.reduceSub, EE.down]
          obtain ⟨t5, ht5, h⟩ := Option.bind_eq_some_iff.1 h
          refine callX_n [] (F31_ok ht5) ?_ ?_ ?_ ?_ ?_ ?_
          · first | rfl | simp [nrmA, nrmC, nrm, A1.ren, C.ren, rn, List.length_set]
          · simp [liveAll, A1.live, C.live]
          · rfl
          · decide
          · exact trivial
          simp only [VW.down, Nat.reduceEqDiff, reduceCtorEq, Nat.reduceAdd, Nat.reduceLeDiff, Nat.reduceLT, Nat.reduceBEq, Nat.reduceSub, EE.down]
          refine guardDB (fun g6 => ?_) (fun g6 => ?_)
          · have h := (if_pos g6).symm.trans h
            simp only [VW.down, Nat.reduceEqDiff, reduceCtorEq, Nat.reduceAdd, Nat.reduceLeDiff, Nat.reduceLT, Nat.reduceBEq, Nat.reduceSub, EE.down]
            obtain rfl := Option.some.inj h
            exact eM [] rfl
          · have h := (if_neg g6).symm.trans h
            simp only [VW.down, Nat.reduceEqDiff, reduceCtorEq, Nat.reduceAdd, Nat.reduceLeDiff, Nat.reduceLT, Nat.reduceBEq, Nat.reduceSub, EE.down]
            refine t_idxF (enc := eLabel) (xs := x0) rfl rfl hxo2 rfl ?_
            simp only [VW.down, Nat.reduceEqDiff, reduceCtorEq, Nat.reduceAdd, Nat.reduceLeDiff, Nat.reduceLT, Nat.reduceBEq, Nat.reduceSub, EE.down]
            obtain ⟨t7, ht7, h⟩ := Option.bind_eq_some_iff.1 h
            refine callX_n [] (F32_ok ht7) ?_ ?_ ?_ ?_ ?_ ?_
            · first | rfl | simp [nrmA, nrmC, nrm, A1.ren, C.ren, rn, List.length_set]
            · simp [liveAll, A1.live, C.live]
            · rfl
            · decide
            · exact trivial
            simp only [VW.down, Nat.reduceEqDiff, reduceCtorEq, Nat.reduceAdd, Nat.reduceLeDiff, Nat.reduceLT, Nat.reduceBEq, Nat.reduceSub, EE.down]
            refine guardDB (fun g8 => ?_) (fun g8 => ?_)
            · have h := (if_pos g8).symm.trans h
              simp only [VW.down, Nat.reduceEqDiff, reduceCtorEq, Nat.reduceAdd, Nat.reduceLeDiff, Nat.reduceLT, Nat.reduceBEq, Nat.reduceSub, EE.down]
              obtain rfl := Option.some.inj h
              exact eM [] rfl
            · have h := (if_neg g8).symm.trans h
              simp only [VW.down, Nat.reduceEqDiff, reduceCtorEq, Nat.reduceAdd, Nat.reduceLeDiff, Nat.reduceLT, Nat.reduceBEq, Nat.reduceSub, EE.down]
              refine guardD (fun g9 => ?_) (fun g9 => ?_)
              · have h := (if_pos g9).symm.trans h
                simp only [VW.down, Nat.reduceEqDiff, reduceCtorEq, Nat.reduceAdd, Nat.reduceLeDiff, Nat.reduceLT, Nat.reduceBEq, Nat.reduceSub, EE.down]
                obtain ⟨y10, hy10, h⟩ := Option.bind_eq_some_iff.1 h
                refine t_idxF (enc := eLabel) (xs := x0) rfl rfl hy10 rfl ?_
                simp only [VW.down, Nat.reduceEqDiff, reduceCtorEq, Nat.reduceAdd, Nat.reduceLeDiff, Nat.reduceLT, Nat.reduceBEq, Nat.reduceSub, EE.down]
                refine t_idxF (enc := eLabel) (xs := x0) rfl rfl hxo2 rfl ?_
                simp only [VW.down, Nat.reduceEqDiff, reduceCtorEq, Nat.reduceAdd, Nat.reduceLeDiff, Nat.reduceLT, Nat.reduceBEq, Nat.reduceSub, EE.down]
                obtain rfl := Option.some.inj h
                exact eM [] rfl
              · have h := (if_neg g9).symm.trans h
                simp only [VW.down, Nat.reduceEqDiff, reduceCtorEq, Nat.reduceAdd, Nat.reduceLeDiff, Nat.reduceLT, Nat.reduceBEq, Nat.reduceSub, EE.down]
                obtain rfl := Option.some.inj h
                exact eM [] rfl
        · rintro _ rfl
          clear ho
          simp only [VW.down, Nat.reduceEqDiff, reduceCtorEq, Nat.reduceAdd, Nat.reduceLeDiff, Nat.reduceLT, Nat.reduceBEq, Nat.reduceSub, EE.down]
          refine condB (fun c11 => ?_) (fun c11 => ?_)
          · have h := (if_pos c11).symm.trans h
            simp only [VW.down, Nat.reduceEqDiff, reduceCtorEq, Nat.reduceAdd, Nat.reduceLeDiff, Nat.reduceLT, Nat.reduceBEq, Nat.reduceSub, EE.down]
            obtain ⟨fh0o2, hfh0o2, rfl⟩ := Option.map_eq_some_iff.1 h
            have h := hfh0o2.trans h0o2
            obtain rfl := Option.some.inj h
            exact eF []
          · have h := (if_neg c11).symm.trans h
            simp only [VW.down, Nat.reduceEqDiff, reduceCtorEq, Nat.reduceAdd, Nat.reduceLeDiff, Nat.reduceLT, Nat.reduceBEq, Nat.reduceSub, EE.down]
            rw [wrapN (by omega)]
            exact eL' (x0.length - (o2_0 + 1)) [] ⟨o2_0 + 1, ⟨by omega, rfl⟩, rfl, h⟩ (by omega)
      · rw [countN (show ¬ ((o2_0 : Int) < (x0.length : Int)) from c3), F14_l2] at h
        simp only [VW.down, Nat.reduceEqDiff, reduceCtorEq, Nat.reduceAdd, Nat.reduceLeDiff, Nat.reduceLT, Nat.reduceBEq, Nat.reduceSub, EE.down]
        obtain rfl := Option.some.inj h
        exact eM [] ⟨_, rfl, rfl⟩
    · rintro _ ⟨po2, rfl, rfl⟩
      clear ho
      dsimp only at h
      simp only [VW.down, Nat.reduceEqDiff, reduceCtorEq, Nat.reduceAdd, Nat.reduceLeDiff, Nat.reduceLT, Nat.reduceBEq, Nat.reduceSub, EE.down]
      obtain rfl := Option.some.inj h
      exact eF []

/- orchestrator/orchestratorref03.validOne -/
def F36_l12 (x0 : Requirement) : List ByteArray → Nat → Option ((Bool) ⊕ (Unit))
  | [], o12_0 => some (Sum.inr (()))
  | xo12 :: xs, o12_0 => (((F32 xo12).bind fun t15 => (if (nb t15) = true then some true else (if 0 < (o12_0 : Int) then (rdI x0.Values ((IntKind.i64.wrap (((o12_0 : Int)) - 1)))).bind fun y18 => some (nb (Op.bytesLess y18.toList xo12.toList)) else some false))).bind fun o14 => (if o14 = true then (some false).map Sum.inl else F36_l12 x0 xs (o12_0 + 1)))
def F36 (x0 : Requirement) : Option (Bool) := (F31 x0.Key).bind fun t1 => (if (nb t1) = true then some false else (((if x0.Op = 3 then some true else some (decide (x0.Op = 4)))).bind fun o3 => (if o3 = true then some (decide ((x0.Values.length : Int) = 0)) else (((if ¬ (x0.Op = 1) then (if ¬ (x0.Op = 2) then some true else (if (x0.Values.length : Int) < 1 then some true else some (decide (64 < (x0.Values.length : Int))))) else (if (x0.Values.length : Int) < 1 then some true else some (decide (64 < (x0.Values.length : Int)))))).bind fun o6 => (if o6 = true then some false else (((ck (0 ≤ x0.Values.length ∧ x0.Values.length ≤ 4294967290)).bind fun u20 => F36_l12 x0 x0.Values 0 : Option ((Bool) ⊕ (Unit))).bind fun o12 => match o12 with | Sum.inl f => some f | Sum.inr po12 => some true))))))
def a36 : AFn := ⟨72, [(.tmp 2)],
 (.seq (.reg [⟨(some 1), none, .box (.t 0), [], (.new [])⟩,
   ⟨(some 2), none, .mv (kB false), [], (.new [])⟩])
 (.seq (.seq (.reg [⟨(some 4), none, .fieldA 0 (.t 1), [], (.new [])⟩,
   ⟨(some 5), none, .load none (.t 4), [], (.new [])⟩,
   ⟨(some 6), none, .call 31 [(.t 5)], [], (.new [])⟩,
   ⟨(some 7), none, .not (.t 6), [], (.new [])⟩])
 (.cond (.t 7)
 (.seq (.reg [⟨(some 2), none, .mv (kB false), [], (.new [])⟩])
 .ret)
 .skip))
 (.seq (.seq (.sem (.reg [⟨(some 8), none, .fieldA 1 (.t 1), [], (.new [])⟩,
   ⟨(some 9), none, .load none (.t 8), [], (.new [])⟩,
   ⟨(some 10), none, .bin .eql (.t 9) (kI 3), [], (.new [])⟩,
   ⟨(some 11), none, .mv (.t 10), [], (.new [])⟩,
   ⟨(some 12), (some (11, false)), .fieldA 1 (.t 1), [], (.new [])⟩,
   ⟨(some 13), (some (11, false)), .load none (.t 12), [], (.new [])⟩,
   ⟨(some 14), (some (11, false)), .bin .eql (.t 13) (kI 4), [], (.new [])⟩,
   ⟨(some 15), none, .pick (.t 11) (kB true) (.t 14), [], (.lone [1, 8, 1, 12])⟩]))
 (.cond (.t 15)
 (.seq (.reg [⟨(some 16), none, .fieldA 2 (.t 1), [], (.new [])⟩,
   ⟨(some 17), none, .load none (.t 16), [], (.new [])⟩,
   ⟨(some 18), none, .len (.t 17), [], (.new [])⟩,
   ⟨(some 19), none, .bin .eql (.t 18) (kI 0), [], (.new [])⟩,
   ⟨(some 2), none, .mv (.t 19), [], (.new [])⟩])
 .ret)
 .skip))
 (.seq (.seq (.sem (.reg [⟨(some 20), none, .fieldA 1 (.t 1), [], (.new [])⟩,
   ⟨(some 21), none, .load none (.t 20), [], (.new [])⟩,
   ⟨(some 22), none, .bin .neq (.t 21) (kI 1), [], (.new [])⟩,
   ⟨(some 23), none, .mv (.t 22), [], (.new [])⟩,
   ⟨(some 24), (some (23, true)), .fieldA 1 (.t 1), [], (.new [])⟩,
   ⟨(some 25), (some (23, true)), .load none (.t 24), [], (.new [])⟩,
   ⟨(some 26), (some (23, true)), .bin .neq (.t 25) (kI 2), [], (.new [])⟩,
   ⟨(some 27), none, .pick (.t 23) (.t 26) (kB false), [], (.new [])⟩,
   ⟨(some 28), none, .mv (.t 27), [], (.new [])⟩,
   ⟨(some 29), (some (28, false)), .fieldA 2 (.t 1), [], (.new [])⟩,
   ⟨(some 30), (some (28, false)), .load none (.t 29), [], (.new [])⟩,
   ⟨(some 31), (some (28, false)), .len (.t 30), [], (.new [])⟩,
   ⟨(some 32), (some (28, false)), .bin .lss (.t 31) (kI 1), [], (.new [])⟩,
   ⟨(some 33), none, .pick (.t 28) (kB true) (.t 32), [], (.new [])⟩,
   ⟨(some 34), none, .mv (.t 33), [], (.new [])⟩,
   ⟨(some 35), (some (34, false)), .fieldA 2 (.t 1), [], (.new [])⟩,
   ⟨(some 36), (some (34, false)), .load none (.t 35), [], (.new [])⟩,
   ⟨(some 37), (some (34, false)), .len (.t 36), [], (.new [])⟩,
   ⟨(some 38), (some (34, false)), .bin .gtr (.t 37) (kI 64), [], (.new [])⟩,
   ⟨(some 39), none, .pick (.t 34) (kB true) (.t 38), [], (.new [])⟩]))
 (.cond (.t 39)
 (.seq (.reg [⟨(some 2), none, .mv (kB false), [], (.new [])⟩])
 .ret)
 .skip))
 (.seq (.seq (.reg [⟨(some 3), none, .mv (kI 0), [], (.new [])⟩])
 (.sem (.block 0 (.loop (.seq (.seq (.reg [⟨(some 40), none, .mv (.t 3), [], (.new [])⟩,
   ⟨(some 41), none, .fieldA 2 (.t 1), [], (.new [])⟩,
   ⟨(some 42), none, .load none (.t 41), [], (.new [])⟩,
   ⟨(some 43), none, .len (.t 42), [], (.new [])⟩,
   ⟨(some 44), none, .bin .lss (.t 40) (.t 43), [], (.new [])⟩])
 (.cond (.t 44)
 .skip
 (.exit 0)))
 (.seq (.block 1 (.seq (.sem (.regd [⟨(some 47), none, .fieldA 2 (.t 1), [], (.new [])⟩,
   ⟨(some 48), none, .load none (.t 47), [0], (.new [])⟩,
   ⟨(some 49), none, .mv (.t 3), [], (.new [])⟩,
   ⟨(some 50), none, .indexA 1 (.t 48) (.t 49), [0, 1, 2], (.new [])⟩,
   ⟨(some 51), none, .load none (.t 50), [0, 1, 2, 3], (.new [])⟩,
   ⟨(some 52), none, .call 32 [(.t 51)], [0, 1, 2, 3, 4], (.lone [])⟩,
   ⟨(some 53), none, .not (.t 52), [0, 1, 2, 3, 4, 5], (.new [])⟩,
   ⟨(some 54), none, .mv (.t 53), [0, 1, 2, 3, 4, 5, 6], (.new [])⟩,
   ⟨(some 55), (some (54, false)), .mv (.t 3), [0, 1, 2, 3, 4, 5, 6, 7], (.new [])⟩,
   ⟨(some 56), (some (54, false)), .bin .gtr (.t 55) (kI 0), [0, 1, 2, 3, 4, 5, 6, 7, 8], (.new [])⟩,
   ⟨(some 57), (some (54, false)), .mv (.t 56), [0, 1, 2, 3, 4, 5, 6, 7, 8, 9], (.new [])⟩,
   ⟨(some 58), (some (57, true)), .fieldA 2 (.t 1), [0, 1, 2, 3, 4, 5, 6, 7, 8, 9, 10], (.new [])⟩,
   ⟨(some 59), (some (57, true)), .load none (.t 58), [0, 1, 2, 3, 4, 5, 6, 7, 8, 9, 10, 11], (.new [])⟩,
   ⟨(some 60), (some (57, true)), .mv (.t 3), [0, 1, 2, 3, 4, 5, 6, 7, 8, 9, 10], (.new [])⟩,
   ⟨(some 61), (some (57, true)), .bin .sub (.t 60) (kI 1), [0, 1, 2, 3, 4, 5, 6, 7, 8, 9, 10, 13], (.new [])⟩,
   ⟨(some 62), (some (57, true)), .indexA 1 (.t 59) (.t 61), [0, 1, 2, 3, 4, 5, 6, 7, 8, 9, 10, 11, 12, 13, 14], (.new [])⟩,
   ⟨(some 63), (some (57, true)), .load none (.t 62), [0, 1, 2, 3, 4, 5, 6, 7, 8, 9, 10, 11, 12, 13, 14, 15], (.new [])⟩,
   ⟨(some 64), (some (57, true)), .fieldA 2 (.t 1), [0, 1, 2, 3, 4, 5, 6, 7, 8, 9, 10], (.new [])⟩,
   ⟨(some 65), (some (57, true)), .load none (.t 64), [0, 1, 2, 3, 4, 5, 6, 7, 8, 9, 10, 17], (.new [])⟩,
   ⟨(some 66), (some (57, true)), .mv (.t 3), [0, 1, 2, 3, 4, 5, 6, 7, 8, 9, 10], (.new [])⟩,
   ⟨(some 67), (some (57, true)), .indexA 1 (.t 65) (.t 66), [0, 1, 2, 3, 4, 5, 6, 7, 8, 9, 10, 17, 18, 19], (.new [])⟩,
   ⟨(some 68), (some (57, true)), .load none (.t 67), [0, 1, 2, 3, 4, 5, 6, 7, 8, 9, 10, 17, 18, 19, 20], (.new [])⟩,
   ⟨(some 69), (some (57, true)), .bin .geq (.t 63) (.t 68), [0, 1, 2, 3, 4, 5, 6, 7, 8, 9, 10, 11, 12, 13, 14, 15, 16, 17, 18, 19, 20, 21], (.new [])⟩,
   ⟨(some 70), (some (54, false)), .pick (.t 57) (.t 69) (kB false), [0, 1, 2, 3, 4, 5, 6, 7, 8, 9, 10, 11, 12, 13, 14, 15, 16, 17, 18, 19, 20, 21, 22], (.lone [])⟩,
   ⟨(some 71), none, .pick (.t 54) (kB true) (.t 70), [0, 1, 2, 3, 4, 5, 6, 7, 8, 9, 10, 11, 12, 13, 14, 15, 16, 17, 18, 19, 20, 21, 22, 23], (.lone [])⟩]))
 (.cond (.t 71)
 (.seq (.reg [⟨(some 2), none, .mv (kB false), [], (.new [])⟩])
 .ret)
 .skip)))
 (.reg [⟨(some 45), none, .mv (.t 3), [], (.new [])⟩,
   ⟨(some 46), none, .bin .add (.t 45) (kI 1), [], (.new [])⟩,
   ⟨(some 3), none, .mv (.t 46), [], (.new [])⟩])))))))
 (.seq (.reg [⟨(some 2), none, .mv (kB true), [], (.new [])⟩])
 .ret))))))⟩
theorem a36_ok : afn Try.prog 36 = some a36.er := by kernel_rfl
theorem F36_ok {x0 : Requirement} {r : Bool} (h : F36 x0 = some r) : CallD Try.prog 36 [.agg [.d (.v (.string x0.Key)), .d (.v (.int .i64 x0.Op)), .d (.sl (x0.Values.map eS))]] [] (tupV [.c (.d (.v (.bool r)))]) [] := by
  refine callS a36_ok (by simp [a36]) ?_
  rw [F36] at h
  simp only [a36, VW.down, Nat.reduceEqDiff, reduceCtorEq, Nat.reduceAdd, Nat.reduceLeDiff, Nat.reduceLT, Nat.reduceBEq, Nat.reduceSub, EE.down]
  obtain ⟨t1, ht1, h⟩ := Option.bind_eq_some_iff.1 h
  refine callX_n [] (F31_ok ht1) ?_ ?_ ?_ ?_ ?_ ?_
  · first | rfl | simp [nrmA, nrmC, nrm, A1.ren, C.ren, rn, List.length_set]
  · simp [liveAll, A1.live, C.live]
  · rfl
  · decide
  · exact trivial
  simp only [VW.down, Nat.reduceEqDiff, reduceCtorEq, Nat.reduceAdd, Nat.reduceLeDiff, Nat.reduceLT, Nat.reduceBEq, Nat.reduceSub, EE.down]
  refine condB (fun c2 => ?_) (fun c2 => ?_)
  · have h := (if_pos c2).symm.trans h
    simp only [VW.down, Nat.reduceEqDiff, reduceCtorEq, Nat.reduceAdd, Nat.reduceLeDiff, Nat.reduceLT, Nat.reduceBEq, Nat.reduceSub, EE.down]
    obtain rfl := Option.some.inj h
    exact eF []
  · have h := (if_neg c2).symm.trans h
    simp only [VW.down, Nat.reduceEqDiff, reduceCtorEq, Nat.reduceAdd, Nat.reduceLeDiff, Nat.reduceLT, Nat.reduceBEq, Nat.reduceSub, EE.down]
    obtain ⟨o3, ho, h⟩ := Option.bind_eq_some_iff.1 h
    refine cutS (fun s => s = ⟨[(1, .one (.c (.pt 0 0))), (15, .one (.c (.d (.v (.bool o3)))))], [some (.box [.d (.v (.string x0.Key)), .d (.v (.int .i64 x0.Op)), .d (.sl (x0.Values.map eS))])]⟩) ?_ ?_
    · have h := ho
      clear ho
      simp only [VW.down, Nat.reduceEqDiff, reduceCtorEq, Nat.reduceAdd, Nat.reduceLeDiff, Nat.reduceLT, Nat.reduceBEq, Nat.reduceSub, EE.down]
      refine guardS (fun g4 => ?_) (fun g4 => ?_)
      · have h := (if_pos g4).symm.trans h
        simp only [VW.down, Nat.reduceEqDiff, reduceCtorEq, Nat.reduceAdd, Nat.reduceLeDiff, Nat.reduceLT, Nat.reduceBEq, Nat.reduceSub, EE.down]
        obtain rfl := Option.some.inj h
        exact eM [some 0] rfl
      · have h := (if_neg g4).symm.trans h
        simp only [VW.down, Nat.reduceEqDiff, reduceCtorEq, Nat.reduceAdd, Nat.reduceLeDiff, Nat.reduceLT, Nat.reduceBEq, Nat.reduceSub, EE.down]
        obtain rfl := Option.some.inj h
        exact eM [some 0] rfl
    · rintro _ rfl
      clear ho
      simp only [VW.down, Nat.reduceEqDiff, reduceCtorEq, Nat.reduceAdd, Nat.reduceLeDiff, Nat.reduceLT, Nat.reduceBEq, Nat.reduceSub, EE.down]
      refine condB (fun c5 => ?_) (fun c5 => ?_)
      · have h := (if_pos c5).symm.trans h
        simp only [VW.down, Nat.reduceEqDiff, reduceCtorEq, Nat.reduceAdd, Nat.reduceLeDiff, Nat.reduceLT, Nat.reduceBEq, Nat.reduceSub, EE.down]
        obtain rfl := Option.some.inj h
        exact eF []
      · have h := (if_neg c5).symm.trans h
        simp only [VW.down, Nat.reduceEqDiff, reduceCtorEq, Nat.reduceAdd, Nat.reduceLeDiff, Nat.reduceLT, Nat.reduceBEq, Nat.reduceSub, EE.down]
        obtain ⟨o6, ho, h⟩ := Option.bind_eq_some_iff.1 h
        refine cutS (fun s => s = ⟨[(1, .one (.c (.pt 0 0))), (39, .one (.c (.d (.v (.bool o6)))))], [some (.box [.d (.v (.string x0.Key)), .d (.v (.int .i64 x0.Op)), .d (.sl (x0.Values.map eS))])]⟩) ?_ ?_
        · have h := ho
          clear ho
          simp only [VW.down, Nat.reduceEqDiff, reduceCtorEq, Nat.reduceAdd, Nat.reduceLeDiff, Nat.reduceLT, Nat.reduceBEq, Nat.reduceSub, EE.down]
          refine guardS (fun g7 => ?_) (fun g7 => ?_)
          · have h := (if_pos g7).symm.trans h
            simp only [VW.down, Nat.reduceEqDiff, reduceCtorEq, Nat.reduceAdd, Nat.reduceLeDiff, Nat.reduceLT, Nat.reduceBEq, Nat.reduceSub, EE.down]
            refine guardS (fun g8 => ?_) (fun g8 => ?_)
            · have h := (if_pos g8).symm.trans h
              simp only [VW.down, Nat.reduceEqDiff, reduceCtorEq, Nat.reduceAdd, Nat.reduceLeDiff, Nat.reduceLT, Nat.reduceBEq, Nat.reduceSub, EE.down]
              obtain rfl := Option.some.inj h
              exact eM [some 0] rfl
            · have h := (if_neg g8).symm.trans h
              simp only [VW.down, Nat.reduceEqDiff, reduceCtorEq, Nat.reduceAdd, Nat.reduceLeDiff, Nat.reduceLT, Nat.reduceBEq, Nat.reduceSub, EE.down]
              refine guardS (fun g9 => ?_) (fun g9 => ?_)
              · have h := (if_pos g9).symm.trans h
                simp only [VW.down, Nat.reduceEqDiff, reduceCtorEq, Nat.reduceAdd, Nat.reduceLeDiff, Nat.reduceLT, Nat.reduceBEq, Nat.reduceSub, EE.down]
                obtain rfl := Option.some.inj h
                exact eM [some 0] rfl
              · have h := (if_neg g9).symm.trans h
                simp only [VW.down, Nat.reduceEqDiff, reduceCtorEq, Nat.reduceAdd, Nat.reduceLeDiff, Nat.reduceLT, Nat.reduceBEq, Nat.reduceSub, EE.down]
                obtain rfl := Option.some.inj h
                exact eM [some 0] rfl
          · have h := (if_neg g7).symm.trans h
            simp only [VW.down, Nat.reduceEqDiff, reduceCtorEq, Nat.reduceAdd, Nat.reduceLeDiff, Nat.reduceLT, Nat.reduceBEq, Nat.reduceSub, EE.down]
            refine guardS (fun g10 => ?_) (fun g10 => ?_)
            · have h := (if_pos g10).symm.trans h
              simp only [VW.down, Nat.reduceEqDiff, reduceCtorEq, Nat.reduceAdd, Nat.reduceLeDiff, Nat.reduceLT, Nat.reduceBEq, Nat.reduceSub, EE.down]
              obtain rfl := Option.some.inj h
              exact eM [some 0] rfl
            · have h := (if_neg g10).symm.trans h
              simp only [VW.down, Nat.reduceEqDiff, reduceCtorEq, Nat.reduceAdd, Nat.reduceLeDiff, Nat.reduceLT, Nat.reduceBEq, Nat.reduceSub, EE.down]
              obtain rfl := Option.some.inj h
              exact eM [some 0] rfl
        · rintro _ rfl
          clear ho
          simp only [VW.down, Nat.reduceEqDiff, reduceCtorEq, Nat.reduceAdd, Nat.reduceLeDiff, Nat.reduceLT, Nat.reduceBEq, Nat.reduceSub, EE.down]
          refine condB (fun c11 => ?_) (fun c11 => ?_)
          · have h := (if_pos c11).symm.trans h
            simp only [VW.down, Nat.reduceEqDiff, reduceCtorEq, Nat.reduceAdd, Nat.reduceLeDiff, Nat.reduceLT, Nat.reduceBEq, Nat.reduceSub, EE.down]
            obtain rfl := Option.some.inj h
            exact eF []
          · have h := (if_neg c11).symm.trans h
            simp only [VW.down, Nat.reduceEqDiff, reduceCtorEq, Nat.reduceAdd, Nat.reduceLeDiff, Nat.reduceLT, Nat.reduceBEq, Nat.reduceSub, EE.down]
            obtain ⟨o12, ho, h⟩ := Option.bind_eq_some_iff.1 h
            refine cutS (fun s => ∃ po12, o12 = Sum.inr po12 ∧ s = ⟨[], []⟩) ?_ ?_
            · have h0o12 := h
              have h := ho
              clear ho
              obtain ⟨_, hk, h⟩ := Option.bind_eq_some_iff.1 h
              have hk := ck_some hk
              simp only [VW.down, Nat.reduceEqDiff, reduceCtorEq, Nat.reduceAdd, Nat.reduceLeDiff, Nat.reduceLT, Nat.reduceBEq, Nat.reduceSub, EE.down]
              refine bL (fun j s => ∃ (o12_0 : Nat), (o12_0 ≤ x0.Values.length ∧ j = x0.Values.length - o12_0) ∧ s = ⟨[(1, .one (.c (.pt 0 0))), (3, .one (.c (.d (.v (.int .i64 ((o12_0 : Int)))))))], [some (.box [.d (.v (.string x0.Key)), .d (.v (.int .i64 x0.Op)), .d (.sl (x0.Values.map eS))])]⟩ ∧ F36_l12 x0 (x0.Values.drop o12_0) o12_0 = some o12) (x0.Values.length - 0) [some 0] ⟨0, ⟨hk.1, rfl⟩, rfl, h⟩ ?_
              rintro _ _ ⟨o12_0, ⟨hi, rfl⟩, rfl, h⟩
              simp only [VW.down, Nat.reduceEqDiff, reduceCtorEq, Nat.reduceAdd, Nat.reduceLeDiff, Nat.reduceLT, Nat.reduceBEq, Nat.reduceSub, EE.down]
              refine condS (fun c13 => ?_) (fun c13 => ?_)
              · obtain ⟨xo12, hxo12, hd⟩ := countY (show (o12_0 : Int) < (x0.Values.length : Int) from c13)
                rw [hd, F36_l12] at h
                simp only [VW.down, Nat.reduceEqDiff, reduceCtorEq, Nat.reduceAdd, Nat.reduceLeDiff, Nat.reduceLT, Nat.reduceBEq, Nat.reduceSub, EE.down]
                obtain ⟨o14, ho, h⟩ := Option.bind_eq_some_iff.1 h
                refine cutS (fun s => s = ⟨[(1, .one (.c (.pt 0 0))), (3, .one (.c (.d (.v (.int .i64 ((o12_0 : Int))))))), (71, .one (.c (.d (.v (.bool o14)))))], [some (.box [.d (.v (.string x0.Key)), .d (.v (.int .i64 x0.Op)), .d (.sl (x0.Values.map eS))])]⟩) ?_ ?_
                · have h := ho
                  clear ho
                  simp only [VW.down, Nat.reduceEqDiff, reduceCtorEq, Nat.reduceAdd, Nat.reduceLeDiff, Nat.reduceLT, Nat.reduceBEq, Nat.reduceSub, EE.down]
                  refine t_idxF (enc := eS) (xs := x0.Values) rfl rfl hxo12 rfl ?_
                  simp only [VW.down, Nat.reduceEqDiff, reduceCtorEq, Nat.reduceAdd, Nat.reduceLeDiff, Nat.reduceLT, Nat.reduceBEq, Nat.reduceSub, EE.down]
                  obtain ⟨t15, ht15, h⟩ := Option.bind_eq_some_iff.1 h
                  refine callX_n [] (F32_ok ht15) ?_ ?_ ?_ ?_ ?_ ?_
                  · first | rfl | simp [nrmA, nrmC, nrm, A1.ren, C.ren, rn, List.length_set]
                  · simp [liveAll, A1.live, C.live]
                  · rfl
                  · decide
                  · exact trivial
                  simp only [VW.down, Nat.reduceEqDiff, reduceCtorEq, Nat.reduceAdd, Nat.reduceLeDiff, Nat.reduceLT, Nat.reduceBEq, Nat.reduceSub, EE.down]
                  refine guardDB (fun g16 => ?_) (fun g16 => ?_)
                  · have h := (if_pos g16).symm.trans h
                    simp only [VW.down, Nat.reduceEqDiff, reduceCtorEq, Nat.reduceAdd, Nat.reduceLeDiff, Nat.reduceLT, Nat.reduceBEq, Nat.reduceSub, EE.down]
                    obtain rfl := Option.some.inj h
                    exact eM [some 0] rfl
                  · have h := (if_neg g16).symm.trans h
                    simp only [VW.down, Nat.reduceEqDiff, reduceCtorEq, Nat.reduceAdd, Nat.reduceLeDiff, Nat.reduceLT, Nat.reduceBEq, Nat.reduceSub, EE.down]
                    refine guardD (fun g17 => ?_) (fun g17 => ?_)
                    · have h := (if_pos g17).symm.trans h
                      simp only [VW.down, Nat.reduceEqDiff, reduceCtorEq, Nat.reduceAdd, Nat.reduceLeDiff, Nat.reduceLT, Nat.reduceBEq, Nat.reduceSub, EE.down]
                      obtain ⟨y18, hy18, h⟩ := Option.bind_eq_some_iff.1 h
                      refine t_idxF (enc := eS) (xs := x0.Values) rfl rfl hy18 rfl ?_
                      simp only [VW.down, Nat.reduceEqDiff, reduceCtorEq, Nat.reduceAdd, Nat.reduceLeDiff, Nat.reduceLT, Nat.reduceBEq, Nat.reduceSub, EE.down]
                      refine t_idxF (enc := eS) (xs := x0.Values) rfl rfl hxo12 rfl ?_
                      simp only [VW.down, Nat.reduceEqDiff, reduceCtorEq, Nat.reduceAdd, Nat.reduceLeDiff, Nat.reduceLT, Nat.reduceBEq, Nat.reduceSub, EE.down]
                      obtain rfl := Option.some.inj h
                      exact eM [some 0] rfl
                    · have h := (if_neg g17).symm.trans h
                      simp only [VW.down, Nat.reduceEqDiff, reduceCtorEq, Nat.reduceAdd, Nat.reduceLeDiff, Nat.reduceLT, Nat.reduceBEq, Nat.reduceSub, EE.down]
                      obtain rfl := Option.some.inj h
                      exact eM [some 0] rfl
                · rintro _ rfl
                  clear ho
                  simp only [VW.down, Nat.reduceEqDiff, reduceCtorEq, Nat.reduceAdd, Nat.reduceLeDiff, Nat.reduceLT, Nat.reduceBEq, Nat.reduceSub, EE.down]
                  refine condB (fun c19 => ?_) (fun c19 => ?_)
                  · have h := (if_pos c19).symm.trans h
                    simp only [VW.down, Nat.reduceEqDiff, reduceCtorEq, Nat.reduceAdd, Nat.reduceLeDiff, Nat.reduceLT, Nat.reduceBEq, Nat.reduceSub, EE.down]
                    obtain ⟨fh0o12, hfh0o12, rfl⟩ := Option.map_eq_some_iff.1 h
                    have h := hfh0o12.trans h0o12
                    obtain rfl := Option.some.inj h
                    exact eF []
                  · have h := (if_neg c19).symm.trans h
                    simp only [VW.down, Nat.reduceEqDiff, reduceCtorEq, Nat.reduceAdd, Nat.reduceLeDiff, Nat.reduceLT, Nat.reduceBEq, Nat.reduceSub, EE.down]
                    rw [wrapN (by omega)]
                    exact eL' (x0.Values.length - (o12_0 + 1)) [some 0] ⟨o12_0 + 1, ⟨by omega, rfl⟩, rfl, h⟩ (by omega)
              · rw [countN (show ¬ ((o12_0 : Int) < (x0.Values.length : Int)) from c13), F36_l12] at h
                simp only [VW.down, Nat.reduceEqDiff, reduceCtorEq, Nat.reduceAdd, Nat.reduceLeDiff, Nat.reduceLT, Nat.reduceBEq, Nat.reduceSub, EE.down]
                obtain rfl := Option.some.inj h
                exact eM [] ⟨_, rfl, rfl⟩
            · rintro _ ⟨po12, rfl, rfl⟩
              clear ho
              dsimp only at h
              simp only [VW.down, Nat.reduceEqDiff, reduceCtorEq, Nat.reduceAdd, Nat.reduceLeDiff, Nat.reduceLT, Nat.reduceBEq, Nat.reduceSub, EE.down]
              obtain rfl := Option.some.inj h
              exact eF []

/- orchestrator/orchestratorref03.ValidSelector -/
def F16_l2  : List Requirement → Nat → Option ((Bool) ⊕ (Unit))
  | [], o2_0 => some (Sum.inr (()))
  | xo2 :: xs, o2_0 => (F36 xo2).bind fun t4 => (if (nb t4) = true then (some false).map Sum.inl else F16_l2  xs (o2_0 + 1))
def F16 (x0 : (List Requirement)) : Option (Bool) := (if 16 < (x0.length : Int) then some false else (((ck (0 ≤ x0.length ∧ x0.length ≤ 4294967290)).bind fun u6 => F16_l2 x0 0 : Option ((Bool) ⊕ (Unit))).bind fun o2 => match o2 with | Sum.inl f => some f | Sum.inr po2 => some true))
def a16 : AFn := ⟨19, [(.tmp 2)],
 (.seq (.reg [⟨(some 2), none, .mv (kB false), [], (.new [])⟩])
 (.seq (.seq (.reg [⟨(some 4), none, .mv (.t 0), [], (.new [])⟩,
   ⟨(some 5), none, .len (.t 4), [], (.new [])⟩,
   ⟨(some 6), none, .bin .gtr (.t 5) (kI 16), [], (.new [])⟩])
 (.cond (.t 6)
 (.seq (.reg [⟨(some 2), none, .mv (kB false), [], (.new [])⟩])
 .ret)
 .skip))
 (.seq (.seq (.reg [⟨(some 3), none, .mv (kI 0), [], (.new [])⟩])
 (.sem (.block 0 (.loop (.seq (.seq (.reg [⟨(some 7), none, .mv (.t 3), [], (.new [])⟩,
   ⟨(some 8), none, .mv (.t 0), [], (.new [])⟩,
   ⟨(some 9), none, .len (.t 8), [], (.new [])⟩,
   ⟨(some 10), none, .bin .lss (.t 7) (.t 9), [], (.new [])⟩])
 (.cond (.t 10)
 .skip
 (.exit 0)))
 (.seq (.block 1 (.seq (.reg [⟨(some 13), none, .mv (.t 0), [], (.new [])⟩,
   ⟨(some 14), none, .mv (.t 3), [], (.new [])⟩,
   ⟨(some 15), none, .indexA 3 (.t 13) (.t 14), [], (.new [])⟩,
   ⟨(some 16), none, .load (some 3) (.t 15), [], (.new [])⟩,
   ⟨(some 17), none, .call 36 [(.t 16)], [], (.new [])⟩,
   ⟨(some 18), none, .not (.t 17), [], (.new [])⟩])
 (.cond (.t 18)
 (.seq (.reg [⟨(some 2), none, .mv (kB false), [], (.new [])⟩])
 .ret)
 .skip)))
 (.reg [⟨(some 11), none, .mv (.t 3), [], (.new [])⟩,
   ⟨(some 12), none, .bin .add (.t 11) (kI 1), [], (.new [])⟩,
   ⟨(some 3), none, .mv (.t 12), [], (.new [])⟩])))))))
 (.seq (.reg [⟨(some 2), none, .mv (kB true), [], (.new [])⟩])
 .ret))))⟩
theorem a16_ok : afn Try.prog 16 = some a16.er := by kernel_rfl
theorem F16_ok {x0 : (List Requirement)} {r : Bool} (h : F16 x0 = some r) : CallD Try.prog 16 [.c (.d (.sl (x0.map eRequirement)))] [] (tupV [.c (.d (.v (.bool r)))]) [] := by
  refine callS a16_ok (by simp [a16]) ?_
  rw [F16] at h
  simp only [a16, VW.down, Nat.reduceEqDiff, reduceCtorEq, Nat.reduceAdd, Nat.reduceLeDiff, Nat.reduceLT, Nat.reduceBEq, Nat.reduceSub, EE.down]
  refine condS (fun c1 => ?_) (fun c1 => ?_)
  · have h := (if_pos c1).symm.trans h
    simp only [VW.down, Nat.reduceEqDiff, reduceCtorEq, Nat.reduceAdd, Nat.reduceLeDiff, Nat.reduceLT, Nat.reduceBEq, Nat.reduceSub, EE.down]
    obtain rfl := Option.some.inj h
    exact eF []
  · have h := (if_neg c1).symm.trans h
    simp only [VW.down, Nat.reduceEqDiff, reduceCtorEq, Nat.reduceAdd, Nat.reduceLeDiff, Nat.reduceLT, Nat.reduceBEq, Nat.reduceSub, EE.down]
    obtain ⟨o2, ho, h⟩ := Option.bind_eq_some_iff.1 h
    refine cutS (fun s => ∃ po2, o2 = Sum.inr po2 ∧ s = ⟨[], []⟩) ?_ ?_
    · have h0o2 := h
      have h := ho
      clear ho
      obtain ⟨_, hk, h⟩ := Option.bind_eq_some_iff.1 h
      have hk := ck_some hk
      simp only [VW.down, Nat.reduceEqDiff, reduceCtorEq, Nat.reduceAdd, Nat.reduceLeDiff, Nat.reduceLT, Nat.reduceBEq, Nat.reduceSub, EE.down]
      refine bL (fun j s => ∃ (o2_0 : Nat), (o2_0 ≤ x0.length ∧ j = x0.length - o2_0) ∧ s = ⟨[(0, .one (.c (.d (.sl (x0.map eRequirement))))), (3, .one (.c (.d (.v (.int .i64 ((o2_0 : Int)))))))], []⟩ ∧ F16_l2 (x0.drop o2_0) o2_0 = some o2) (x0.length - 0) [] ⟨0, ⟨hk.1, rfl⟩, rfl, h⟩ ?_
      rintro _ _ ⟨o2_0, ⟨hi, rfl⟩, rfl, h⟩
      simp only [VW.down, Nat.reduceEqDiff, reduceCtorEq, Nat.reduceAdd, Nat.reduceLeDiff, Nat.reduceLT, Nat.reduceBEq, Nat.reduceSub, EE.down]
      refine condS (fun c3 => ?_) (fun c3 => ?_)
      · obtain ⟨xo2, hxo2, hd⟩ := countY (show (o2_0 : Int) < (x0.length : Int) from c3)
        rw [hd, F16_l2] at h
        simp only [VW.down, Nat.reduceEqDiff, reduceCtorEq, Nat.reduceAdd, Nat.reduceLeDiff, Nat.reduceLT, Nat.reduceBEq, Nat.reduceSub, EE.down]
        refine t_idxF (enc := eRequirement) (xs := x0) rfl rfl hxo2 rfl ?_
        simp only [VW.down, Nat.reduceEqDiff, reduceCtorEq, Nat.reduceAdd, Nat.reduceLeDiff, Nat.reduceLT, Nat.reduceBEq, Nat.reduceSub, EE.down]
        obtain ⟨t4, ht4, h⟩ := Option.bind_eq_some_iff.1 h
        refine callX_n [] (F36_ok ht4) ?_ ?_ ?_ ?_ ?_ ?_
        · first | rfl | simp [nrmA, nrmC, nrm, A1.ren, C.ren, rn, List.length_set]
        · simp [liveAll, A1.live, C.live]
        · rfl
        · decide
        · exact trivial
        simp only [VW.down, Nat.reduceEqDiff, reduceCtorEq, Nat.reduceAdd, Nat.reduceLeDiff, Nat.reduceLT, Nat.reduceBEq, Nat.reduceSub, EE.down]
        refine condB (fun c5 => ?_) (fun c5 => ?_)
        · have h := (if_pos c5).symm.trans h
          simp only [VW.down, Nat.reduceEqDiff, reduceCtorEq, Nat.reduceAdd, Nat.reduceLeDiff, Nat.reduceLT, Nat.reduceBEq, Nat.reduceSub, EE.down]
          obtain ⟨fh0o2, hfh0o2, rfl⟩ := Option.map_eq_some_iff.1 h
          have h := hfh0o2.trans h0o2
          obtain rfl := Option.some.inj h
          exact eF []
        · have h := (if_neg c5).symm.trans h
          simp only [VW.down, Nat.reduceEqDiff, reduceCtorEq, Nat.reduceAdd, Nat.reduceLeDiff, Nat.reduceLT, Nat.reduceBEq, Nat.reduceSub, EE.down]
          rw [wrapN (by omega)]
          exact eL' (x0.length - (o2_0 + 1)) [] ⟨o2_0 + 1, ⟨by omega, rfl⟩, rfl, h⟩ (by omega)
      · rw [countN (show ¬ ((o2_0 : Int) < (x0.length : Int)) from c3), F16_l2] at h
        simp only [VW.down, Nat.reduceEqDiff, reduceCtorEq, Nat.reduceAdd, Nat.reduceLeDiff, Nat.reduceLT, Nat.reduceBEq, Nat.reduceSub, EE.down]
        obtain rfl := Option.some.inj h
        exact eM [] ⟨_, rfl, rfl⟩
    · rintro _ ⟨po2, rfl, rfl⟩
      clear ho
      dsimp only at h
      simp only [VW.down, Nat.reduceEqDiff, reduceCtorEq, Nat.reduceAdd, Nat.reduceLeDiff, Nat.reduceLT, Nat.reduceBEq, Nat.reduceSub, EE.down]
      obtain rfl := Option.some.inj h
      exact eF []

/- orchestrator/orchestratorlaw03.LabelValid -/
def F3 (x0 : (List Label)) (x1 : (List Requirement)) : Option (Bool) := (F11 x0 x1).bind fun t1 => (if (nb t1) = true then (F12).bind fun t3 => some t3 else (((F13 x0).bind fun t5 => (F14 x0).bind fun t6 => (if (((t5 == t6) != false)) = true then (F15 x1).bind fun t8 => (F16 x1).bind fun t9 => (if (((t8 == t9) != false)) = true then (F12).bind fun t11 => some t11 else some false) else some false)).bind fun o4 => some o4))
def a3 : AFn := ⟨25, [(.tmp 4)],
 (.seq (.reg [⟨(some 4), none, .mv (kB false), [], (.new [])⟩])
 (.seq (.seq (.reg [⟨(some 5), none, .mv (.t 0), [], (.new [])⟩,
   ⟨(some 6), none, .mv (.t 1), [], (.new [])⟩,
   ⟨(some 7), none, .call 11 [(.t 5), (.t 6)], [], (.new [])⟩,
   ⟨(some 8), none, .not (.t 7), [], (.new [])⟩])
 (.cond (.t 8)
 (.seq (.reg [⟨(some 9), none, .call 12 [], [], (.new [])⟩,
   ⟨(some 4), none, .mv (.t 9), [], (.new [])⟩])
 .ret)
 .skip))
 (.seq (.sem (.reg [⟨(some 10), none, .mv (.t 0), [], (.new [])⟩,
   ⟨(some 11), none, .call 13 [(.t 10)], [], (.new [])⟩,
   ⟨(some 12), none, .mv (.t 0), [], (.new [])⟩,
   ⟨(some 13), none, .call 14 [(.t 12)], [], (.new [])⟩,
   ⟨(some 14), none, .beq false (.t 11) (.t 13), [], (.new [])⟩,
   ⟨(some 15), none, .mv (.t 14), [], (.new [])⟩,
   ⟨(some 16), (some (15, true)), .mv (.t 1), [], (.new [])⟩,
   ⟨(some 17), (some (15, true)), .call 15 [(.t 16)], [], (.new [])⟩,
   ⟨(some 18), (some (15, true)), .mv (.t 1), [], (.new [])⟩,
   ⟨(some 19), (some (15, true)), .call 16 [(.t 18)], [], (.new [])⟩,
   ⟨(some 20), (some (15, true)), .beq false (.t 17) (.t 19), [], (.new [])⟩,
   ⟨(some 21), none, .pick (.t 15) (.t 20) (kB false), [], (.new [])⟩,
   ⟨(some 22), none, .mv (.t 21), [], (.new [])⟩,
   ⟨(some 23), (some (22, true)), .call 12 [], [], (.new [])⟩,
   ⟨(some 24), none, .pick (.t 22) (.t 23) (kB false), [], (.new [])⟩,
   ⟨(some 4), none, .mv (.t 24), [], (.new [])⟩]))
 .ret)))⟩
theorem a3_ok : afn Try.prog 3 = some a3.er := by kernel_rfl
theorem F3_ok {x0 : (List Label)} {x1 : (List Requirement)} {r : Bool} (h : F3 x0 x1 = some r) : CallD Try.prog 3 [.c (.d (.sl (x0.map eLabel))), .c (.d (.sl (x1.map eRequirement)))] [] (tupV [.c (.d (.v (.bool r)))]) [] := by
  refine callS a3_ok (by simp [a3]) ?_
  rw [F3] at h
  simp only [a3, VW.down, Nat.reduceEqDiff, reduceCtorEq, Nat.reduceAdd, Nat.reduceLeDiff, Nat.reduceLT, Nat.reduceBEq, Nat.reduceSub, EE.down]
  obtain ⟨t1, ht1, h⟩ := Option.bind_eq_some_iff.1 h
  refine callX_n [] (F11_ok ht1) ?_ ?_ ?_ ?_ ?_ ?_
  · first | rfl | simp [nrmA, nrmC, nrm, A1.ren, C.ren, rn, List.length_set]
  · simp [liveAll, A1.live, C.live]
  · rfl
  · decide
  · exact trivial
  simp only [VW.down, Nat.reduceEqDiff, reduceCtorEq, Nat.reduceAdd, Nat.reduceLeDiff, Nat.reduceLT, Nat.reduceBEq, Nat.reduceSub, EE.down]
  refine condB (fun c2 => ?_) (fun c2 => ?_)
  · have h := (if_pos c2).symm.trans h
    simp only [VW.down, Nat.reduceEqDiff, reduceCtorEq, Nat.reduceAdd, Nat.reduceLeDiff, Nat.reduceLT, Nat.reduceBEq, Nat.reduceSub, EE.down]
    obtain ⟨t3, ht3, h⟩ := Option.bind_eq_some_iff.1 h
    refine callX_n [] (F12_ok ht3) ?_ ?_ ?_ ?_ ?_ ?_
    · first | rfl | simp [nrmA, nrmC, nrm, A1.ren, C.ren, rn, List.length_set]
    · simp [liveAll, A1.live, C.live]
    · rfl
    · decide
    · exact trivial
    simp only [VW.down, Nat.reduceEqDiff, reduceCtorEq, Nat.reduceAdd, Nat.reduceLeDiff, Nat.reduceLT, Nat.reduceBEq, Nat.reduceSub, EE.down]
    obtain rfl := Option.some.inj h
    exact eF []
  · have h := (if_neg c2).symm.trans h
    simp only [VW.down, Nat.reduceEqDiff, reduceCtorEq, Nat.reduceAdd, Nat.reduceLeDiff, Nat.reduceLT, Nat.reduceBEq, Nat.reduceSub, EE.down]
    obtain ⟨o4, ho, h⟩ := Option.bind_eq_some_iff.1 h
    refine cutS (fun s => s = ⟨[(4, .one (.c (.d (.v (.bool o4)))))], []⟩) ?_ ?_
    · have h := ho
      clear ho
      simp only [VW.down, Nat.reduceEqDiff, reduceCtorEq, Nat.reduceAdd, Nat.reduceLeDiff, Nat.reduceLT, Nat.reduceBEq, Nat.reduceSub, EE.down]
      obtain ⟨t5, ht5, h⟩ := Option.bind_eq_some_iff.1 h
      refine callX_n [] (F13_ok ht5) ?_ ?_ ?_ ?_ ?_ ?_
      · first | rfl | simp [nrmA, nrmC, nrm, A1.ren, C.ren, rn, List.length_set]
      · simp [liveAll, A1.live, C.live]
      · rfl
      · decide
      · exact trivial
      simp only [VW.down, Nat.reduceEqDiff, reduceCtorEq, Nat.reduceAdd, Nat.reduceLeDiff, Nat.reduceLT, Nat.reduceBEq, Nat.reduceSub, EE.down]
      obtain ⟨t6, ht6, h⟩ := Option.bind_eq_some_iff.1 h
      refine callX_n [] (F14_ok ht6) ?_ ?_ ?_ ?_ ?_ ?_
      · first | rfl | simp [nrmA, nrmC, nrm, A1.ren, C.ren, rn, List.length_set]
      · simp [liveAll, A1.live, C.live]
      · rfl
      · decide
      · exact trivial
      simp only [VW.down, Nat.reduceEqDiff, reduceCtorEq, Nat.reduceAdd, Nat.reduceLeDiff, Nat.reduceLT, Nat.reduceBEq, Nat.reduceSub, EE.down]
      refine guardSB (fun g7 => ?_) (fun g7 => ?_)
      · have h := (if_pos g7).symm.trans h
        simp only [VW.down, Nat.reduceEqDiff, reduceCtorEq, Nat.reduceAdd, Nat.reduceLeDiff, Nat.reduceLT, Nat.reduceBEq, Nat.reduceSub, EE.down]
        obtain ⟨t8, ht8, h⟩ := Option.bind_eq_some_iff.1 h
        refine callX_n [] (F15_ok ht8) ?_ ?_ ?_ ?_ ?_ ?_
        · first | rfl | simp [nrmA, nrmC, nrm, A1.ren, C.ren, rn, List.length_set]
        · simp [liveAll, A1.live, C.live]
        · rfl
        · decide
        · exact trivial
        simp only [VW.down, Nat.reduceEqDiff, reduceCtorEq, Nat.reduceAdd, Nat.reduceLeDiff, Nat.reduceLT, Nat.reduceBEq, Nat.reduceSub, EE.down]
        obtain ⟨t9, ht9, h⟩ := Option.bind_eq_some_iff.1 h
        refine callX_n [] (F16_ok ht9) ?_ ?_ ?_ ?_ ?_ ?_
        · first | rfl | simp [nrmA, nrmC, nrm, A1.ren, C.ren, rn, List.length_set]
        · simp [liveAll, A1.live, C.live]
        · rfl
        · decide
        · exact trivial
        simp only [VW.down, Nat.reduceEqDiff, reduceCtorEq, Nat.reduceAdd, Nat.reduceLeDiff, Nat.reduceLT, Nat.reduceBEq, Nat.reduceSub, EE.down]
        refine guardSB (fun g10 => ?_) (fun g10 => ?_)
        · have h := (if_pos g10).symm.trans h
          simp only [VW.down, Nat.reduceEqDiff, reduceCtorEq, Nat.reduceAdd, Nat.reduceLeDiff, Nat.reduceLT, Nat.reduceBEq, Nat.reduceSub, EE.down]
          obtain ⟨t11, ht11, h⟩ := Option.bind_eq_some_iff.1 h
          refine callX_n [] (F12_ok ht11) ?_ ?_ ?_ ?_ ?_ ?_
          · first | rfl | simp [nrmA, nrmC, nrm, A1.ren, C.ren, rn, List.length_set]
          · simp [liveAll, A1.live, C.live]
          · rfl
          · decide
          · exact trivial
          simp only [VW.down, Nat.reduceEqDiff, reduceCtorEq, Nat.reduceAdd, Nat.reduceLeDiff, Nat.reduceLT, Nat.reduceBEq, Nat.reduceSub, EE.down]
          obtain rfl := Option.some.inj h
          exact eM [] rfl
        · have h := (if_neg g10).symm.trans h
          simp only [VW.down, Nat.reduceEqDiff, reduceCtorEq, Nat.reduceAdd, Nat.reduceLeDiff, Nat.reduceLT, Nat.reduceBEq, Nat.reduceSub, EE.down]
          obtain rfl := Option.some.inj h
          exact eM [] rfl
      · have h := (if_neg g7).symm.trans h
        simp only [VW.down, Nat.reduceEqDiff, reduceCtorEq, Nat.reduceAdd, Nat.reduceLeDiff, Nat.reduceLT, Nat.reduceBEq, Nat.reduceSub, EE.down]
        obtain rfl := Option.some.inj h
        exact eM [] rfl
    · rintro _ rfl
      clear ho
      simp only [VW.down, Nat.reduceEqDiff, reduceCtorEq, Nat.reduceAdd, Nat.reduceLeDiff, Nat.reduceLT, Nat.reduceBEq, Nat.reduceSub, EE.down]
      obtain rfl := Option.some.inj h
      exact eF []

end Go.Proofs.Ytadhmlfnfgpjjaa
