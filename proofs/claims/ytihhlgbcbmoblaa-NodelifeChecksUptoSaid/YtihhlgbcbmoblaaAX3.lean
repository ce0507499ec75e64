/- Each Go function as a function over typed data, and its walk. -/
import Derived.Test.YtihhlgbcbmoblaaAX2
namespace Go.Proofs.Ytihhlgbcbmoblaa
open Go Go.Fw Go.Shelf
set_option maxRecDepth 100000
set_option maxHeartbeats 4000000
set_option linter.unusedSimpArgs false
set_option linter.unusedVariables false
/- orchestrator/orchestratorref13.SameMeta -/
def F21_l19 (x1 : Meta) : List Label → Nat → Option ((Bool) ⊕ (Unit))
  | [], o19_0 => some (Sum.inr (()))
  | xo19 :: xs, o19_0 => (rdI x1.Labels ((o19_0 : Int))).bind fun y21 => (if ¬ (xo19.Key = y21.Key ∧ xo19.Value = y21.Value) then (some false).map Sum.inl else F21_l19 x1 xs (o19_0 + 1))
def F21_l24 (x1 : Meta) : List Owner → Nat → Option ((Bool) ⊕ (Unit))
  | [], o24_0 => some (Sum.inr (()))
  | xo24 :: xs, o24_0 => (rdI x1.Owners ((o24_0 : Int))).bind fun y26 => (if (nb ((decide (xo24.Kind = y26.Kind) && (decide (xo24.Name = y26.Name) && (decide (xo24.Uid = y26.Uid) && ((xo24.Controller == y26.Controller) && (xo24.Block == y26.Block))))))) = true then (some false).map Sum.inl else F21_l24 x1 xs (o24_0 + 1))
def F21_l29 (x1 : Meta) : List Manager → Nat → Option ((Bool) ⊕ (Unit))
  | [], o29_0 => some (Sum.inr (()))
  | xo29 :: xs, o29_0 => (((rdI x1.Managers ((o29_0 : Int))).bind fun y32 => (if ¬ (xo29.Name = y32.Name) then some true else (F45 xo29.Fields y32.Fields).bind fun t34 => some (nb t34))).bind fun o31 => (if o31 = true then (some false).map Sum.inl else F21_l29 x1 xs (o29_0 + 1)))
def F21 (x0 : Meta) (x1 : Meta) : Option (Bool) := (((F41 x0).bind fun t2 => (F41 x1).bind fun t3 => (if ¬ (t2 = t3) then some true else (if ¬ (x0.Kind = x1.Kind) then some true else (if ¬ (x0.Namespace = x1.Namespace) then some true else (if ¬ (x0.Uid = x1.Uid) then some true else (if ¬ (x0.Version = x1.Version) then some true else (if ¬ (x0.Generation = x1.Generation) then some true else (if ¬ (x0.Created = x1.Created) then some true else (if (((x0.Deleting == x1.Deleting) != true)) = true then some true else some (decide (¬ (x0.DeleteAt = x1.DeleteAt)))))))))))).bind fun o1 => (if o1 = true then some false else (((if ¬ ((x0.Labels.length : Int) = (x1.Labels.length : Int)) then some true else (if ¬ ((x0.Owners.length : Int) = (x1.Owners.length : Int)) then some true else (if ¬ ((x0.Managers.length : Int) = (x1.Managers.length : Int)) then some true else (F45 x0.Finalizers x1.Finalizers).bind fun t17 => some (nb t17))))).bind fun o13 => (if o13 = true then some false else (((ck (0 ≤ x0.Labels.length ∧ x0.Labels.length ≤ 4294967290)).bind fun u23 => F21_l19 x1 x0.Labels 0).bind fun o19 => match o19 with | Sum.inl f => some f | Sum.inr po19 => (((ck (0 ≤ x0.Owners.length ∧ x0.Owners.length ≤ 4294967290)).bind fun u28 => F21_l24 x1 x0.Owners 0).bind fun o24 => match o24 with | Sum.inl f => some f | Sum.inr po24 => (((ck (0 ≤ x0.Managers.length ∧ x0.Managers.length ≤ 4294967290)).bind fun u36 => F21_l29 x1 x0.Managers 0).bind fun o29 => match o29 with | Sum.inl f => some f | Sum.inr po29 => some true)))))))
def a21 : AFn := ⟨174, [(.tmp 4)],
 (.seq (.reg [⟨(some 2), none, .box (.t 0), [], (.new [])⟩,
   ⟨(some 3), none, .box (.t 1), [], (.new [])⟩,
   ⟨(some 4), none, .mv (kB false), [], (.new [])⟩])
 (.seq (.seq (.sem (.regd [⟨(some 8), none, .load (some 13) (.t 2), [], (.new [])⟩,
   ⟨(some 9), none, .call 41 [(.t 8)], [0], (.new [0])⟩,
   ⟨(some 10), none, .load (some 13) (.t 3), [], (.new [])⟩,
   ⟨(some 11), none, .call 41 [(.t 10)], [0, 1, 2], (.lone [])⟩,
   ⟨(some 12), none, .bin .neq (.t 9) (.t 11), [0, 1, 2, 3], (.new [])⟩,
   ⟨(some 13), none, .mv (.t 12), [0, 1, 2, 3, 4], (.new [])⟩,
   ⟨(some 14), (some (13, false)), .fieldA 0 (.t 2), [0, 1, 2, 3, 4, 5], (.new [])⟩,
   ⟨(some 15), (some (13, false)), .load none (.t 14), [0, 1, 2, 3, 4, 5, 6], (.new [])⟩,
   ⟨(some 16), (some (13, false)), .fieldA 0 (.t 3), [0, 1, 2, 3, 4, 5], (.new [])⟩,
   ⟨(some 17), (some (13, false)), .load none (.t 16), [0, 1, 2, 3, 4, 5, 8], (.new [])⟩,
   ⟨(some 18), (some (13, false)), .bin .neq (.t 15) (.t 17), [0, 1, 2, 3, 4, 5, 6, 7, 8, 9], (.new [])⟩,
   ⟨(some 19), none, .pick (.t 13) (kB true) (.t 18), [0, 1, 2, 3, 4, 5, 6, 7, 8, 9, 10], (.lone [])⟩,
   ⟨(some 20), none, .mv (.t 19), [0, 1, 2, 3, 4, 5, 6, 7, 8, 9, 10, 11], (.new [])⟩,
   ⟨(some 21), (some (20, false)), .fieldA 1 (.t 2), [0, 1, 2, 3, 4, 5, 6, 7, 8, 9, 10, 11, 12], (.new [])⟩,
   ⟨(some 22), (some (20, false)), .load none (.t 21), [0, 1, 2, 3, 4, 5, 6, 7, 8, 9, 10, 11, 12, 13], (.new [])⟩,
   ⟨(some 23), (some (20, false)), .fieldA 1 (.t 3), [0, 1, 2, 3, 4, 5, 6, 7, 8, 9, 10, 11, 12], (.new [])⟩,
   ⟨(some 24), (some (20, false)), .load none (.t 23), [0, 1, 2, 3, 4, 5, 6, 7, 8, 9, 10, 11, 12, 15], (.new [])⟩,
   ⟨(some 25), (some (20, false)), .bin .neq (.t 22) (.t 24), [0, 1, 2, 3, 4, 5, 6, 7, 8, 9, 10, 11, 12, 13, 14, 15, 16], (.new [])⟩,
   ⟨(some 26), none, .pick (.t 20) (kB true) (.t 25), [0, 1, 2, 3, 4, 5, 6, 7, 8, 9, 10, 11, 12, 13, 14, 15, 16, 17], (.lone [])⟩,
   ⟨(some 27), none, .mv (.t 26), [0, 1, 2, 3, 4, 5, 6, 7, 8, 9, 10, 11, 12, 13, 14, 15, 16, 17, 18], (.new [])⟩,
   ⟨(some 28), (some (27, false)), .fieldA 3 (.t 2), [0, 1, 2, 3, 4, 5, 6, 7, 8, 9, 10, 11, 12, 13, 14, 15, 16, 17, 18, 19], (.new [])⟩,
   ⟨(some 29), (some (27, false)), .load none (.t 28), [0, 1, 2, 3, 4, 5, 6, 7, 8, 9, 10, 11, 12, 13, 14, 15, 16, 17, 18, 19, 20], (.new [])⟩,
   ⟨(some 30), (some (27, false)), .fieldA 3 (.t 3), [0, 1, 2, 3, 4, 5, 6, 7, 8, 9, 10, 11, 12, 13, 14, 15, 16, 17, 18, 19], (.new [])⟩,
   ⟨(some 31), (some (27, false)), .load none (.t 30), [0, 1, 2, 3, 4, 5, 6, 7, 8, 9, 10, 11, 12, 13, 14, 15, 16, 17, 18, 19, 22], (.new [])⟩,
   ⟨(some 32), (some (27, false)), .bin .neq (.t 29) (.t 31), [0, 1, 2, 3, 4, 5, 6, 7, 8, 9, 10, 11, 12, 13, 14, 15, 16, 17, 18, 19, 20, 21, 22, 23], (.new [])⟩,
   ⟨(some 33), none, .pick (.t 27) (kB true) (.t 32), [0, 1, 2, 3, 4, 5, 6, 7, 8, 9, 10, 11, 12, 13, 14, 15, 16, 17, 18, 19, 20, 21, 22, 23, 24], (.lone [])⟩,
   ⟨(some 34), none, .mv (.t 33), [0, 1, 2, 3, 4, 5, 6, 7, 8, 9, 10, 11, 12, 13, 14, 15, 16, 17, 18, 19, 20, 21, 22, 23, 24, 25], (.new [])⟩,
   ⟨(some 35), (some (34, false)), .fieldA 4 (.t 2), [0, 1, 2, 3, 4, 5, 6, 7, 8, 9, 10, 11, 12, 13, 14, 15, 16, 17, 18, 19, 20, 21, 22, 23, 24, 25, 26], (.new [])⟩,
   ⟨(some 36), (some (34, false)), .load none (.t 35), [0, 1, 2, 3, 4, 5, 6, 7, 8, 9, 10, 11, 12, 13, 14, 15, 16, 17, 18, 19, 20, 21, 22, 23, 24, 25, 26, 27], (.new [])⟩,
   ⟨(some 37), (some (34, false)), .fieldA 4 (.t 3), [0, 1, 2, 3, 4, 5, 6, 7, 8, 9, 10, 11, 12, 13, 14, 15, 16, 17, 18, 19, 20, 21, 22, 23, 24, 25, 26], (.new [])⟩,
   ⟨(some 38), (some (34, false)), .load none (.t 37), [0, 1, 2, 3, 4, 5, 6, 7, 8, 9, 10, 11, 12, 13, 14, 15, 16, 17, 18, 19, 20, 21, 22, 23, 24, 25, 26, 29], (.new [])⟩,
   ⟨(some 39), (some (34, false)), .bin .neq (.t 36) (.t 38), [0, 1, 2, 3, 4, 5, 6, 7, 8, 9, 10, 11, 12, 13, 14, 15, 16, 17, 18, 19, 20, 21, 22, 23, 24, 25, 26, 27, 28, 29, 30], (.new [])⟩,
   ⟨(some 40), none, .pick (.t 34) (kB true) (.t 39), [0, 1, 2, 3, 4, 5, 6, 7, 8, 9, 10, 11, 12, 13, 14, 15, 16, 17, 18, 19, 20, 21, 22, 23, 24, 25, 26, 27, 28, 29, 30, 31], (.lone [])⟩,
   ⟨(some 41), none, .mv (.t 40), [0, 1, 2, 3, 4, 5, 6, 7, 8, 9, 10, 11, 12, 13, 14, 15, 16, 17, 18, 19, 20, 21, 22, 23, 24, 25, 26, 27, 28, 29, 30, 31, 32], (.new [])⟩,
   ⟨(some 42), (some (41, false)), .fieldA 5 (.t 2), [0, 1, 2, 3, 4, 5, 6, 7, 8, 9, 10, 11, 12, 13, 14, 15, 16, 17, 18, 19, 20, 21, 22, 23, 24, 25, 26, 27, 28, 29, 30, 31, 32, 33], (.new [])⟩,
   ⟨(some 43), (some (41, false)), .load none (.t 42), [0, 1, 2, 3, 4, 5, 6, 7, 8, 9, 10, 11, 12, 13, 14, 15, 16, 17, 18, 19, 20, 21, 22, 23, 24, 25, 26, 27, 28, 29, 30, 31, 32, 33, 34], (.new [])⟩,
   ⟨(some 44), (some (41, false)), .fieldA 5 (.t 3), [0, 1, 2, 3, 4, 5, 6, 7, 8, 9, 10, 11, 12, 13, 14, 15, 16, 17, 18, 19, 20, 21, 22, 23, 24, 25, 26, 27, 28, 29, 30, 31, 32, 33], (.new [])⟩,
   ⟨(some 45), (some (41, false)), .load none (.t 44), [0, 1, 2, 3, 4, 5, 6, 7, 8, 9, 10, 11, 12, 13, 14, 15, 16, 17, 18, 19, 20, 21, 22, 23, 24, 25, 26, 27, 28, 29, 30, 31, 32, 33, 36], (.new [])⟩,
   ⟨(some 46), (some (41, false)), .bin .neq (.t 43) (.t 45), [0, 1, 2, 3, 4, 5, 6, 7, 8, 9, 10, 11, 12, 13, 14, 15, 16, 17, 18, 19, 20, 21, 22, 23, 24, 25, 26, 27, 28, 29, 30, 31, 32, 33, 34, 35, 36, 37], (.new [])⟩,
   ⟨(some 47), none, .pick (.t 41) (kB true) (.t 46), [0, 1, 2, 3, 4, 5, 6, 7, 8, 9, 10, 11, 12, 13, 14, 15, 16, 17, 18, 19, 20, 21, 22, 23, 24, 25, 26, 27, 28, 29, 30, 31, 32, 33, 34, 35, 36, 37, 38], (.lone [])⟩,
   ⟨(some 48), none, .mv (.t 47), [0, 1, 2, 3, 4, 5, 6, 7, 8, 9, 10, 11, 12, 13, 14, 15, 16, 17, 18, 19, 20, 21, 22, 23, 24, 25, 26, 27, 28, 29, 30, 31, 32, 33, 34, 35, 36, 37, 38, 39], (.new [])⟩,
   ⟨(some 49), (some (48, false)), .fieldA 6 (.t 2), [0, 1, 2, 3, 4, 5, 6, 7, 8, 9, 10, 11, 12, 13, 14, 15, 16, 17, 18, 19, 20, 21, 22, 23, 24, 25, 26, 27, 28, 29, 30, 31, 32, 33, 34, 35, 36, 37, 38, 39, 40], (.new [])⟩,
   ⟨(some 50), (some (48, false)), .load none (.t 49), [0, 1, 2, 3, 4, 5, 6, 7, 8, 9, 10, 11, 12, 13, 14, 15, 16, 17, 18, 19, 20, 21, 22, 23, 24, 25, 26, 27, 28, 29, 30, 31, 32, 33, 34, 35, 36, 37, 38, 39, 40, 41], (.new [])⟩,
   ⟨(some 51), (some (48, false)), .fieldA 6 (.t 3), [0, 1, 2, 3, 4, 5, 6, 7, 8, 9, 10, 11, 12, 13, 14, 15, 16, 17, 18, 19, 20, 21, 22, 23, 24, 25, 26, 27, 28, 29, 30, 31, 32, 33, 34, 35, 36, 37, 38, 39, 40], (.new [])⟩,
   ⟨(some 52), (some (48, false)), .load none (.t 51), [0, 1, 2, 3, 4, 5, 6, 7, 8, 9, 10, 11, 12, 13, 14, 15, 16, 17, 18, 19, 20, 21, 22, 23, 24, 25, 26, 27, 28, 29, 30, 31, 32, 33, 34, 35, 36, 37, 38, 39, 40, 43], (.new [])⟩,
   ⟨(some 53), (some (48, false)), .bin .neq (.t 50) (.t 52), [0, 1, 2, 3, 4, 5, 6, 7, 8, 9, 10, 11, 12, 13, 14, 15, 16, 17, 18, 19, 20, 21, 22, 23, 24, 25, 26, 27, 28, 29, 30, 31, 32, 33, 34, 35, 36, 37, 38, 39, 40, 41, 42, 43, 44], (.new [])⟩,
   ⟨(some 54), none, .pick (.t 48) (kB true) (.t 53), [0, 1, 2, 3, 4, 5, 6, 7, 8, 9, 10, 11, 12, 13, 14, 15, 16, 17, 18, 19, 20, 21, 22, 23, 24, 25, 26, 27, 28, 29, 30, 31, 32, 33, 34, 35, 36, 37, 38, 39, 40, 41, 42, 43, 44, 45], (.lone [])⟩,
   ⟨(some 55), none, .mv (.t 54), [0, 1, 2, 3, 4, 5, 6, 7, 8, 9, 10, 11, 12, 13, 14, 15, 16, 17, 18, 19, 20, 21, 22, 23, 24, 25, 26, 27, 28, 29, 30, 31, 32, 33, 34, 35, 36, 37, 38, 39, 40, 41, 42, 43, 44, 45, 46], (.new [])⟩,
   ⟨(some 56), (some (55, false)), .fieldA 7 (.t 2), [0, 1, 2, 3, 4, 5, 6, 7, 8, 9, 10, 11, 12, 13, 14, 15, 16, 17, 18, 19, 20, 21, 22, 23, 24, 25, 26, 27, 28, 29, 30, 31, 32, 33, 34, 35, 36, 37, 38, 39, 40, 41, 42, 43, 44, 45, 46, 47], (.new [])⟩,
   ⟨(some 57), (some (55, false)), .load none (.t 56), [0, 1, 2, 3, 4, 5, 6, 7, 8, 9, 10, 11, 12, 13, 14, 15, 16, 17, 18, 19, 20, 21, 22, 23, 24, 25, 26, 27, 28, 29, 30, 31, 32, 33, 34, 35, 36, 37, 38, 39, 40, 41, 42, 43, 44, 45, 46, 47, 48], (.new [])⟩,
   ⟨(some 58), (some (55, false)), .fieldA 7 (.t 3), [0, 1, 2, 3, 4, 5, 6, 7, 8, 9, 10, 11, 12, 13, 14, 15, 16, 17, 18, 19, 20, 21, 22, 23, 24, 25, 26, 27, 28, 29, 30, 31, 32, 33, 34, 35, 36, 37, 38, 39, 40, 41, 42, 43, 44, 45, 46, 47], (.new [])⟩,
   ⟨(some 59), (some (55, false)), .load none (.t 58), [0, 1, 2, 3, 4, 5, 6, 7, 8, 9, 10, 11, 12, 13, 14, 15, 16, 17, 18, 19, 20, 21, 22, 23, 24, 25, 26, 27, 28, 29, 30, 31, 32, 33, 34, 35, 36, 37, 38, 39, 40, 41, 42, 43, 44, 45, 46, 47, 50], (.new [])⟩,
   ⟨(some 60), (some (55, false)), .beq true (.t 57) (.t 59), [0, 1, 2, 3, 4, 5, 6, 7, 8, 9, 10, 11, 12, 13, 14, 15, 16, 17, 18, 19, 20, 21, 22, 23, 24, 25, 26, 27, 28, 29, 30, 31, 32, 33, 34, 35, 36, 37, 38, 39, 40, 41, 42, 43, 44, 45, 46, 47, 48, 49, 50, 51], (.new [])⟩,
   ⟨(some 61), none, .pick (.t 55) (kB true) (.t 60), [0, 1, 2, 3, 4, 5, 6, 7, 8, 9, 10, 11, 12, 13, 14, 15, 16, 17, 18, 19, 20, 21, 22, 23, 24, 25, 26, 27, 28, 29, 30, 31, 32, 33, 34, 35, 36, 37, 38, 39, 40, 41, 42, 43, 44, 45, 46, 47, 48, 49, 50, 51, 52], (.lone [])⟩,
   ⟨(some 62), none, .mv (.t 61), [0, 1, 2, 3, 4, 5, 6, 7, 8, 9, 10, 11, 12, 13, 14, 15, 16, 17, 18, 19, 20, 21, 22, 23, 24, 25, 26, 27, 28, 29, 30, 31, 32, 33, 34, 35, 36, 37, 38, 39, 40, 41, 42, 43, 44, 45, 46, 47, 48, 49, 50, 51, 52, 53], (.new [])⟩,
   ⟨(some 63), (some (62, false)), .fieldA 8 (.t 2), [0, 1, 2, 3, 4, 5, 6, 7, 8, 9, 10, 11, 12, 13, 14, 15, 16, 17, 18, 19, 20, 21, 22, 23, 24, 25, 26, 27, 28, 29, 30, 31, 32, 33, 34, 35, 36, 37, 38, 39, 40, 41, 42, 43, 44, 45, 46, 47, 48, 49, 50, 51, 52, 53, 54], (.new [])⟩,
   ⟨(some 64), (some (62, false)), .load none (.t 63), [0, 1, 2, 3, 4, 5, 6, 7, 8, 9, 10, 11, 12, 13, 14, 15, 16, 17, 18, 19, 20, 21, 22, 23, 24, 25, 26, 27, 28, 29, 30, 31, 32, 33, 34, 35, 36, 37, 38, 39, 40, 41, 42, 43, 44, 45, 46, 47, 48, 49, 50, 51, 52, 53, 54, 55], (.new [])⟩,
   ⟨(some 65), (some (62, false)), .fieldA 8 (.t 3), [0, 1, 2, 3, 4, 5, 6, 7, 8, 9, 10, 11, 12, 13, 14, 15, 16, 17, 18, 19, 20, 21, 22, 23, 24, 25, 26, 27, 28, 29, 30, 31, 32, 33, 34, 35, 36, 37, 38, 39, 40, 41, 42, 43, 44, 45, 46, 47, 48, 49, 50, 51, 52, 53, 54], (.new [])⟩,
   ⟨(some 66), (some (62, false)), .load none (.t 65), [0, 1, 2, 3, 4, 5, 6, 7, 8, 9, 10, 11, 12, 13, 14, 15, 16, 17, 18, 19, 20, 21, 22, 23, 24, 25, 26, 27, 28, 29, 30, 31, 32, 33, 34, 35, 36, 37, 38, 39, 40, 41, 42, 43, 44, 45, 46, 47, 48, 49, 50, 51, 52, 53, 54, 57], (.new [])⟩,
   ⟨(some 67), (some (62, false)), .bin .neq (.t 64) (.t 66), [0, 1, 2, 3, 4, 5, 6, 7, 8, 9, 10, 11, 12, 13, 14, 15, 16, 17, 18, 19, 20, 21, 22, 23, 24, 25, 26, 27, 28, 29, 30, 31, 32, 33, 34, 35, 36, 37, 38, 39, 40, 41, 42, 43, 44, 45, 46, 47, 48, 49, 50, 51, 52, 53, 54, 55, 56, 57, 58], (.new [])⟩,
   ⟨(some 68), none, .pick (.t 62) (kB true) (.t 67), [0, 1, 2, 3, 4, 5, 6, 7, 8, 9, 10, 11, 12, 13, 14, 15, 16, 17, 18, 19, 20, 21, 22, 23, 24, 25, 26, 27, 28, 29, 30, 31, 32, 33, 34, 35, 36, 37, 38, 39, 40, 41, 42, 43, 44, 45, 46, 47, 48, 49, 50, 51, 52, 53, 54, 55, 56, 57, 58, 59], (.lone [])⟩]))
 (.cond (.t 68)
 (.seq (.reg [⟨(some 4), none, .mv (kB false), [], (.new [])⟩])
 .ret)
 .skip))
 (.seq (.seq (.sem (.reg [⟨(some 69), none, .fieldA 9 (.t 2), [], (.new [])⟩,
   ⟨(some 70), none, .load none (.t 69), [], (.new [])⟩,
   ⟨(some 71), none, .len (.t 70), [], (.new [])⟩,
   ⟨(some 72), none, .fieldA 9 (.t 3), [], (.new [])⟩,
   ⟨(some 73), none, .load none (.t 72), [], (.new [])⟩,
   ⟨(some 74), none, .len (.t 73), [], (.new [])⟩,
   ⟨(some 75), none, .bin .neq (.t 71) (.t 74), [], (.new [])⟩,
   ⟨(some 76), none, .mv (.t 75), [], (.new [])⟩,
   ⟨(some 77), (some (76, false)), .fieldA 10 (.t 2), [], (.new [])⟩,
   ⟨(some 78), (some (76, false)), .load none (.t 77), [], (.new [])⟩,
   ⟨(some 79), (some (76, false)), .len (.t 78), [], (.new [])⟩,
   ⟨(some 80), (some (76, false)), .fieldA 10 (.t 3), [], (.new [])⟩,
   ⟨(some 81), (some (76, false)), .load none (.t 80), [], (.new [])⟩,
   ⟨(some 82), (some (76, false)), .len (.t 81), [], (.new [])⟩,
   ⟨(some 83), (some (76, false)), .bin .neq (.t 79) (.t 82), [], (.new [])⟩,
   ⟨(some 84), none, .pick (.t 76) (kB true) (.t 83), [], (.new [])⟩,
   ⟨(some 85), none, .mv (.t 84), [], (.new [])⟩,
   ⟨(some 86), (some (85, false)), .fieldA 12 (.t 2), [], (.new [])⟩,
   ⟨(some 87), (some (85, false)), .load none (.t 86), [], (.new [])⟩,
   ⟨(some 88), (some (85, false)), .len (.t 87), [], (.new [])⟩,
   ⟨(some 89), (some (85, false)), .fieldA 12 (.t 3), [], (.new [])⟩,
   ⟨(some 90), (some (85, false)), .load none (.t 89), [], (.new [])⟩,
   ⟨(some 91), (some (85, false)), .len (.t 90), [], (.new [])⟩,
   ⟨(some 92), (some (85, false)), .bin .neq (.t 88) (.t 91), [], (.new [])⟩,
   ⟨(some 93), none, .pick (.t 85) (kB true) (.t 92), [], (.new [])⟩,
   ⟨(some 94), none, .mv (.t 93), [], (.new [])⟩,
   ⟨(some 95), (some (94, false)), .fieldA 11 (.t 2), [], (.new [])⟩,
   ⟨(some 96), (some (94, false)), .load none (.t 95), [], (.new [])⟩,
   ⟨(some 97), (some (94, false)), .fieldA 11 (.t 3), [], (.new [])⟩,
   ⟨(some 98), (some (94, false)), .load none (.t 97), [], (.new [])⟩,
   ⟨(some 99), (some (94, false)), .call 45 [(.t 96), (.t 98)], [], (.new [])⟩,
   ⟨(some 100), (some (94, false)), .not (.t 99), [], (.new [])⟩,
   ⟨(some 101), none, .pick (.t 94) (kB true) (.t 100), [], (.new [])⟩]))
 (.cond (.t 101)
 (.seq (.reg [⟨(some 4), none, .mv (kB false), [], (.new [])⟩])
 .ret)
 .skip))
 (.seq (.seq (.reg [⟨(some 5), none, .mv (kI 0), [], (.new [])⟩])
 (.sem (.block 0 (.loop (.seq (.seq (.reg [⟨(some 102), none, .mv (.t 5), [], (.new [])⟩,
   ⟨(some 103), none, .fieldA 9 (.t 2), [], (.new [])⟩,
   ⟨(some 104), none, .load none (.t 103), [], (.new [])⟩,
   ⟨(some 105), none, .len (.t 104), [], (.new [])⟩,
   ⟨(some 106), none, .bin .lss (.t 102) (.t 105), [], (.new [])⟩])
 (.cond (.t 106)
 .skip
 (.exit 0)))
 (.seq (.block 1 (.seq (.regd [⟨(some 109), none, .fieldA 9 (.t 2), [], (.new [])⟩,
   ⟨(some 110), none, .load none (.t 109), [0], (.new [])⟩,
   ⟨(some 111), none, .mv (.t 5), [], (.new [])⟩,
   ⟨(some 112), none, .indexA 2 (.t 110) (.t 111), [0, 1, 2], (.new [])⟩,
   ⟨(some 113), none, .load (some 2) (.t 112), [0, 1, 2, 3], (.new [])⟩,
   ⟨(some 114), none, .fieldA 9 (.t 3), [], (.new [])⟩,
   ⟨(some 115), none, .load none (.t 114), [5], (.new [])⟩,
   ⟨(some 116), none, .mv (.t 5), [], (.new [])⟩,
   ⟨(some 117), none, .indexA 2 (.t 115) (.t 116), [5, 6, 7], (.new [])⟩,
   ⟨(some 118), none, .load (some 2) (.t 117), [5, 6, 7, 8], (.new [])⟩,
   ⟨(some 119), none, .eqs true [(0, 2), (1, 2)] (.t 113) (.t 118), [0, 1, 2, 3, 4, 5, 6, 7, 8, 9], (.lone [])⟩])
 (.cond (.t 119)
 (.seq (.reg [⟨(some 4), none, .mv (kB false), [], (.new [])⟩])
 .ret)
 .skip)))
 (.reg [⟨(some 107), none, .mv (.t 5), [], (.new [])⟩,
   ⟨(some 108), none, .bin .add (.t 107) (kI 1), [], (.new [])⟩,
   ⟨(some 5), none, .mv (.t 108), [], (.new [])⟩])))))))
 (.seq (.seq (.reg [⟨(some 6), none, .mv (kI 0), [], (.new [])⟩])
 (.sem (.block 2 (.loop (.seq (.seq (.reg [⟨(some 120), none, .mv (.t 6), [], (.new [])⟩,
   ⟨(some 121), none, .fieldA 10 (.t 2), [], (.new [])⟩,
   ⟨(some 122), none, .load none (.t 121), [], (.new [])⟩,
   ⟨(some 123), none, .len (.t 122), [], (.new [])⟩,
   ⟨(some 124), none, .bin .lss (.t 120) (.t 123), [], (.new [])⟩])
 (.cond (.t 124)
 .skip
 (.exit 2)))
 (.seq (.block 3 (.seq (.regd [⟨(some 127), none, .fieldA 10 (.t 2), [], (.new [])⟩,
   ⟨(some 128), none, .load none (.t 127), [0], (.new [])⟩,
   ⟨(some 129), none, .mv (.t 6), [], (.new [])⟩,
   ⟨(some 130), none, .indexA 5 (.t 128) (.t 129), [0, 1, 2], (.new [])⟩,
   ⟨(some 131), none, .load (some 5) (.t 130), [0, 1, 2, 3], (.new [])⟩,
   ⟨(some 132), none, .fieldA 10 (.t 3), [], (.new [])⟩,
   ⟨(some 133), none, .load none (.t 132), [5], (.new [])⟩,
   ⟨(some 134), none, .mv (.t 6), [], (.new [])⟩,
   ⟨(some 135), none, .indexA 5 (.t 133) (.t 134), [5, 6, 7], (.new [])⟩,
   ⟨(some 136), none, .load (some 5) (.t 135), [5, 6, 7, 8], (.new [])⟩,
   ⟨(some 137), none, .eqs true [(0, 2), (1, 2), (2, 0), (3, 1), (4, 1)] (.t 131) (.t 136), [0, 1, 2, 3, 4, 5, 6, 7, 8, 9], (.lone [])⟩])
 (.cond (.t 137)
 (.seq (.reg [⟨(some 4), none, .mv (kB false), [], (.new [])⟩])
 .ret)
 .skip)))
 (.reg [⟨(some 125), none, .mv (.t 6), [], (.new [])⟩,
   ⟨(some 126), none, .bin .add (.t 125) (kI 1), [], (.new [])⟩,
   ⟨(some 6), none, .mv (.t 126), [], (.new [])⟩])))))))
 (.seq (.seq (.reg [⟨(some 7), none, .mv (kI 0), [], (.new [])⟩])
 (.sem (.block 4 (.loop (.seq (.seq (.reg [⟨(some 138), none, .mv (.t 7), [], (.new [])⟩,
   ⟨(some 139), none, .fieldA 12 (.t 2), [], (.new [])⟩,
   ⟨(some 140), none, .load none (.t 139), [], (.new [])⟩,
   ⟨(some 141), none, .len (.t 140), [], (.new [])⟩,
   ⟨(some 142), none, .bin .lss (.t 138) (.t 141), [], (.new [])⟩])
 (.cond (.t 142)
 .skip
 (.exit 4)))
 (.seq (.block 5 (.seq (.sem (.regd [⟨(some 145), none, .fieldA 12 (.t 2), [], (.new [])⟩,
   ⟨(some 146), none, .load none (.t 145), [0], (.new [])⟩,
   ⟨(some 147), none, .mv (.t 7), [], (.new [])⟩,
   ⟨(some 148), none, .indexA 2 (.t 146) (.t 147), [0, 1, 2], (.new [])⟩,
   ⟨(some 149), none, .fieldA 0 (.t 148), [0, 1, 2, 3], (.new [])⟩,
   ⟨(some 150), none, .load none (.t 149), [0, 1, 2, 3, 4], (.new [])⟩,
   ⟨(some 151), none, .fieldA 12 (.t 3), [], (.new [])⟩,
   ⟨(some 152), none, .load none (.t 151), [6], (.new [])⟩,
   ⟨(some 153), none, .mv (.t 7), [], (.new [])⟩,
   ⟨(some 154), none, .indexA 2 (.t 152) (.t 153), [6, 7, 8], (.new [])⟩,
   ⟨(some 155), none, .fieldA 0 (.t 154), [6, 7, 8, 9], (.new [])⟩,
   ⟨(some 156), none, .load none (.t 155), [6, 7, 8, 9, 10], (.new [])⟩,
   ⟨(some 157), none, .bin .neq (.t 150) (.t 156), [0, 1, 2, 3, 4, 5, 6, 7, 8, 9, 10, 11], (.new [])⟩,
   ⟨(some 158), none, .mv (.t 157), [0, 1, 2, 3, 4, 5, 6, 7, 8, 9, 10, 11, 12], (.new [])⟩,
   ⟨(some 159), (some (158, false)), .fieldA 12 (.t 2), [0, 1, 2, 3, 4, 5, 6, 7, 8, 9, 10, 11, 12, 13], (.new [])⟩,
   ⟨(some 160), (some (158, false)), .load none (.t 159), [0, 1, 2, 3, 4, 5, 6, 7, 8, 9, 10, 11, 12, 13, 14], (.new [])⟩,
   ⟨(some 161), (some (158, false)), .mv (.t 7), [0, 1, 2, 3, 4, 5, 6, 7, 8, 9, 10, 11, 12, 13], (.new [])⟩,
   ⟨(some 162), (some (158, false)), .indexA 2 (.t 160) (.t 161), [0, 1, 2, 3, 4, 5, 6, 7, 8, 9, 10, 11, 12, 13, 14, 15, 16], (.new [])⟩,
   ⟨(some 163), (some (158, false)), .fieldA 1 (.t 162), [0, 1, 2, 3, 4, 5, 6, 7, 8, 9, 10, 11, 12, 13, 14, 15, 16, 17], (.new [])⟩,
   ⟨(some 164), (some (158, false)), .load none (.t 163), [0, 1, 2, 3, 4, 5, 6, 7, 8, 9, 10, 11, 12, 13, 14, 15, 16, 17, 18], (.new [])⟩,
   ⟨(some 165), (some (158, false)), .fieldA 12 (.t 3), [0, 1, 2, 3, 4, 5, 6, 7, 8, 9, 10, 11, 12, 13], (.new [])⟩,
   ⟨(some 166), (some (158, false)), .load none (.t 165), [0, 1, 2, 3, 4, 5, 6, 7, 8, 9, 10, 11, 12, 13, 20], (.new [])⟩,
   ⟨(some 167), (some (158, false)), .mv (.t 7), [0, 1, 2, 3, 4, 5, 6, 7, 8, 9, 10, 11, 12, 13], (.new [])⟩,
   ⟨(some 168), (some (158, false)), .indexA 2 (.t 166) (.t 167), [0, 1, 2, 3, 4, 5, 6, 7, 8, 9, 10, 11, 12, 13, 20, 21, 22], (.new [])⟩,
   ⟨(some 169), (some (158, false)), .fieldA 1 (.t 168), [0, 1, 2, 3, 4, 5, 6, 7, 8, 9, 10, 11, 12, 13, 20, 21, 22, 23], (.new [])⟩,
   ⟨(some 170), (some (158, false)), .load none (.t 169), [0, 1, 2, 3, 4, 5, 6, 7, 8, 9, 10, 11, 12, 13, 20, 21, 22, 23, 24], (.new [])⟩,
   ⟨(some 171), (some (158, false)), .call 45 [(.t 164), (.t 170)], [0, 1, 2, 3, 4, 5, 6, 7, 8, 9, 10, 11, 12, 13, 14, 15, 16, 17, 18, 19, 20, 21, 22, 23, 24, 25], (.lone [])⟩,
   ⟨(some 172), (some (158, false)), .not (.t 171), [0, 1, 2, 3, 4, 5, 6, 7, 8, 9, 10, 11, 12, 13, 14, 15, 16, 17, 18, 19, 20, 21, 22, 23, 24, 25, 26], (.new [])⟩,
   ⟨(some 173), none, .pick (.t 158) (kB true) (.t 172), [0, 1, 2, 3, 4, 5, 6, 7, 8, 9, 10, 11, 12, 13, 14, 15, 16, 17, 18, 19, 20, 21, 22, 23, 24, 25, 26, 27], (.lone [])⟩]))
 (.cond (.t 173)
 (.seq (.reg [⟨(some 4), none, .mv (kB false), [], (.new [])⟩])
 .ret)
 .skip)))
 (.reg [⟨(some 143), none, .mv (.t 7), [], (.new [])⟩,
   ⟨(some 144), none, .bin .add (.t 143) (kI 1), [], (.new [])⟩,
   ⟨(some 7), none, .mv (.t 144), [], (.new [])⟩])))))))
 (.seq (.reg [⟨(some 4), none, .mv (kB true), [], (.new [])⟩])
 .ret)))))))⟩
theorem a21_ok : afn Try.prog 21 = some a21.er := by kernel_rfl
theorem F21_ok {x0 : Meta} {x1 : Meta} {r : Bool} (h : F21 x0 x1 = some r) : CallD Try.prog 21 [.agg [.d (.v (.string x0.Kind)), .d (.v (.string x0.Namespace)), .d (.v (.string x0.Name)), .d (.v (.int .i64 x0.Uid)), .d (.v (.int .i64 x0.Version)), .d (.v (.int .i64 x0.Generation)), .d (.v (.int .i64 x0.Created)), .d (.v (.bool x0.Deleting)), .d (.v (.int .i64 x0.DeleteAt)), .d (.sl (x0.Labels.map eLabel)), .d (.sl (x0.Owners.map eOwner)), .d (.sl (x0.Finalizers.map eS)), .d (.sl (x0.Managers.map eManager))], .agg [.d (.v (.string x1.Kind)), .d (.v (.string x1.Namespace)), .d (.v (.string x1.Name)), .d (.v (.int .i64 x1.Uid)), .d (.v (.int .i64 x1.Version)), .d (.v (.int .i64 x1.Generation)), .d (.v (.int .i64 x1.Created)), .d (.v (.bool x1.Deleting)), .d (.v (.int .i64 x1.DeleteAt)), .d (.sl (x1.Labels.map eLabel)), .d (.sl (x1.Owners.map eOwner)), .d (.sl (x1.Finalizers.map eS)), .d (.sl (x1.Managers.map eManager))]] [] (tupV [.c (.d (.v (.bool r)))]) [] := by
  refine callS a21_ok (by simp [a21]) ?_
  rw [F21] at h
  simp only [a21, VW.down, Nat.reduceEqDiff, reduceCtorEq, Nat.reduceAdd, Nat.reduceLeDiff, Nat.reduceLT, Nat.reduceBEq, Nat.reduceSub, EE.down]
  obtain ⟨o1, ho, h⟩ := Option.bind_eq_some_iff.1 h
  refine cutS (fun s => s = ⟨[(2, .one (.c (.pt 0 0))), (3, .one (.c (.pt 1 0))), (68, .one (.c (.d (.v (.bool o1)))))], [some (.box [.d (.v (.string x0.Kind)), .d (.v (.string x0.Namespace)), .d (.v (.string x0.Name)), .d (.v (.int .i64 x0.Uid)), .d (.v (.int .i64 x0.Version)), .d (.v (.int .i64 x0.Generation)), .d (.v (.int .i64 x0.Created)), .d (.v (.bool x0.Deleting)), .d (.v (.int .i64 x0.DeleteAt)), .d (.sl (x0.Labels.map eLabel)), .d (.sl (x0.Owners.map eOwner)), .d (.sl (x0.Finalizers.map eS)), .d (.sl (x0.Managers.map eManager))]), some (.box [.d (.v (.string x1.Kind)), .d (.v (.string x1.Namespace)), .d (.v (.string x1.Name)), .d (.v (.int .i64 x1.Uid)), .d (.v (.int .i64 x1.Version)), .d (.v (.int .i64 x1.Generation)), .d (.v (.int .i64 x1.Created)), .d (.v (.bool x1.Deleting)), .d (.v (.int .i64 x1.DeleteAt)), .d (.sl (x1.Labels.map eLabel)), .d (.sl (x1.Owners.map eOwner)), .d (.sl (x1.Finalizers.map eS)), .d (.sl (x1.Managers.map eManager))])]⟩) ?_ ?_
  · have h := ho
    clear ho
    simp only [VW.down, Nat.reduceEqDiff, reduceCtorEq, Nat.reduceAdd, Nat.reduceLeDiff, Nat.reduceLT, Nat.reduceBEq, Nat.reduceSub, EE.down]
    obtain ⟨t2, ht2, h⟩ := Option.bind_eq_some_iff.1 h
    refine callX_n [] (F41_ok ht2) ?_ ?_ ?_ ?_ ?_ ?_
    · first | rfl | simp [nrmA, nrmC, nrm, A1.ren, C.ren, rn, List.length_set]
    · simp [liveAll, A1.live, C.live]
    · rfl
    · decide
    · exact trivial
    simp only [VW.down, Nat.reduceEqDiff, reduceCtorEq, Nat.reduceAdd, Nat.reduceLeDiff, Nat.reduceLT, Nat.reduceBEq, Nat.reduceSub, EE.down]
    obtain ⟨t3, ht3, h⟩ := Option.bind_eq_some_iff.1 h
    refine callX_n [] (F41_ok ht3) ?_ ?_ ?_ ?_ ?_ ?_
    · first | rfl | simp [nrmA, nrmC, nrm, A1.ren, C.ren, rn, List.length_set]
    · simp [liveAll, A1.live, C.live]
    · rfl
    · decide
    · exact trivial
    simp only [VW.down, Nat.reduceEqDiff, reduceCtorEq, Nat.reduceAdd, Nat.reduceLeDiff, Nat.reduceLT, Nat.reduceBEq, Nat.reduceSub, EE.down]
    refine guardD (fun g4 => ?_) (fun g4 => ?_)
    · have h := (if_pos g4).symm.trans h
      simp only [VW.down, Nat.reduceEqDiff, reduceCtorEq, Nat.reduceAdd, Nat.reduceLeDiff, Nat.reduceLT, Nat.reduceBEq, Nat.reduceSub, EE.down]
      obtain rfl := Option.some.inj h
      exact eM [some 0, some 1] rfl
    · have h := (if_neg g4).symm.trans h
      simp only [VW.down, Nat.reduceEqDiff, reduceCtorEq, Nat.reduceAdd, Nat.reduceLeDiff, Nat.reduceLT, Nat.reduceBEq, Nat.reduceSub, EE.down]
      refine guardD (fun g5 => ?_) (fun g5 => ?_)
      · have h := (if_pos g5).symm.trans h
        simp only [VW.down, Nat.reduceEqDiff, reduceCtorEq, Nat.reduceAdd, Nat.reduceLeDiff, Nat.reduceLT, Nat.reduceBEq, Nat.reduceSub, EE.down]
        obtain rfl := Option.some.inj h
        exact eM [some 0, some 1] rfl
      · have h := (if_neg g5).symm.trans h
        simp only [VW.down, Nat.reduceEqDiff, reduceCtorEq, Nat.reduceAdd, Nat.reduceLeDiff, Nat.reduceLT, Nat.reduceBEq, Nat.reduceSub, EE.down]
        refine guardD (fun g6 => ?_) (fun g6 => ?_)
        · have h := (if_pos g6).symm.trans h
          simp only [VW.down, Nat.reduceEqDiff, reduceCtorEq, Nat.reduceAdd, Nat.reduceLeDiff, Nat.reduceLT, Nat.reduceBEq, Nat.reduceSub, EE.down]
          obtain rfl := Option.some.inj h
          exact eM [some 0, some 1] rfl
        · have h := (if_neg g6).symm.trans h
          simp only [VW.down, Nat.reduceEqDiff, reduceCtorEq, Nat.reduceAdd, Nat.reduceLeDiff, Nat.reduceLT, Nat.reduceBEq, Nat.reduceSub, EE.down]
          refine guardD (fun g7 => ?_) (fun g7 => ?_)
          · have h := (if_pos g7).symm.trans h
            simp only [VW.down, Nat.reduceEqDiff, reduceCtorEq, Nat.reduceAdd, Nat.reduceLeDiff, Nat.reduceLT, Nat.reduceBEq, Nat.reduceSub, EE.down]
            obtain rfl := Option.some.inj h
            exact eM [some 0, some 1] rfl
          · have h := (if_neg g7).symm.trans h
            simp only [VW.down, Nat.reduceEqDiff, reduceCtorEq, Nat.reduceAdd, Nat.reduceLeDiff, Nat.reduceLT, Nat.reduceBEq, Nat.reduceSub, EE.down]
            refine guardD (fun g8 => ?_) (fun g8 => ?_)
            · have h := (if_pos g8).symm.trans h
              simp only [VW.down, Nat.reduceEqDiff, reduceCtorEq, Nat.reduceAdd, Nat.reduceLeDiff, Nat.reduceLT, Nat.reduceBEq, Nat.reduceSub, EE.down]
              obtain rfl := Option.some.inj h
              exact eM [some 0, some 1] rfl
            · have h := (if_neg g8).symm.trans h
              simp only [VW.down, Nat.reduceEqDiff, reduceCtorEq, Nat.reduceAdd, Nat.reduceLeDiff, Nat.reduceLT, Nat.reduceBEq, Nat.reduceSub, EE.down]
              refine guardD (fun g9 => ?_) (fun g9 => ?_)
              · have h := (if_pos g9).symm.trans h
                simp only [VW.down, Nat.reduceEqDiff, reduceCtorEq, Nat.reduceAdd, Nat.reduceLeDiff, Nat.reduceLT, Nat.reduceBEq, Nat.reduceSub, EE.down]
                obtain rfl := Option.some.inj h
                exact eM [some 0, some 1] rfl
              · have h := (if_neg g9).symm.trans h
                simp only [VW.down, Nat.reduceEqDiff, reduceCtorEq, Nat.reduceAdd, Nat.reduceLeDiff, Nat.reduceLT, Nat.reduceBEq, Nat.reduceSub, EE.down]
                refine guardD (fun g10 => ?_) (fun g10 => ?_)
                · have h := (if_pos g10).symm.trans h
                  simp only [VW.down, Nat.reduceEqDiff, reduceCtorEq, Nat.reduceAdd, Nat.reduceLeDiff, Nat.reduceLT, Nat.reduceBEq, Nat.reduceSub, EE.down]
                  obtain rfl := Option.some.inj h
                  exact eM [some 0, some 1] rfl
                · have h := (if_neg g10).symm.trans h
                  simp only [VW.down, Nat.reduceEqDiff, reduceCtorEq, Nat.reduceAdd, Nat.reduceLeDiff, Nat.reduceLT, Nat.reduceBEq, Nat.reduceSub, EE.down]
                  refine guardDB (fun g11 => ?_) (fun g11 => ?_)
                  · have h := (if_pos g11).symm.trans h
                    simp only [VW.down, Nat.reduceEqDiff, reduceCtorEq, Nat.reduceAdd, Nat.reduceLeDiff, Nat.reduceLT, Nat.reduceBEq, Nat.reduceSub, EE.down]
                    obtain rfl := Option.some.inj h
                    exact eM [some 0, some 1] rfl
                  · have h := (if_neg g11).symm.trans h
                    simp only [VW.down, Nat.reduceEqDiff, reduceCtorEq, Nat.reduceAdd, Nat.reduceLeDiff, Nat.reduceLT, Nat.reduceBEq, Nat.reduceSub, EE.down]
                    obtain rfl := Option.some.inj h
                    exact eM [some 0, some 1] rfl
  · rintro _ rfl
    clear ho
    simp only [VW.down, Nat.reduceEqDiff, reduceCtorEq, Nat.reduceAdd, Nat.reduceLeDiff, Nat.reduceLT, Nat.reduceBEq, Nat.reduceSub, EE.down]
    refine condB (fun c12 => ?_) (fun c12 => ?_)
    · have h := (if_pos c12).symm.trans h
      simp only [VW.down, Nat.reduceEqDiff, reduceCtorEq, Nat.reduceAdd, Nat.reduceLeDiff, Nat.reduceLT, Nat.reduceBEq, Nat.reduceSub, EE.down]
      obtain rfl := Option.some.inj h
      exact eF []
    · have h := (if_neg c12).symm.trans h
      simp only [VW.down, Nat.reduceEqDiff, reduceCtorEq, Nat.reduceAdd, Nat.reduceLeDiff, Nat.reduceLT, Nat.reduceBEq, Nat.reduceSub, EE.down]
      obtain ⟨o13, ho, h⟩ := Option.bind_eq_some_iff.1 h
      refine cutS (fun s => s = ⟨[(2, .one (.c (.pt 0 0))), (3, .one (.c (.pt 1 0))), (101, .one (.c (.d (.v (.bool o13)))))], [some (.box [.d (.v (.string x0.Kind)), .d (.v (.string x0.Namespace)), .d (.v (.string x0.Name)), .d (.v (.int .i64 x0.Uid)), .d (.v (.int .i64 x0.Version)), .d (.v (.int .i64 x0.Generation)), .d (.v (.int .i64 x0.Created)), .d (.v (.bool x0.Deleting)), .d (.v (.int .i64 x0.DeleteAt)), .d (.sl (x0.Labels.map eLabel)), .d (.sl (x0.Owners.map eOwner)), .d (.sl (x0.Finalizers.map eS)), .d (.sl (x0.Managers.map eManager))]), some (.box [.d (.v (.string x1.Kind)), .d (.v (.string x1.Namespace)), .d (.v (.string x1.Name)), .d (.v (.int .i64 x1.Uid)), .d (.v (.int .i64 x1.Version)), .d (.v (.int .i64 x1.Generation)), .d (.v (.int .i64 x1.Created)), .d (.v (.bool x1.Deleting)), .d (.v (.int .i64 x1.DeleteAt)), .d (.sl (x1.Labels.map eLabel)), .d (.sl (x1.Owners.map eOwner)), .d (.sl (x1.Finalizers.map eS)), .d (.sl (x1.Managers.map eManager))])]⟩) ?_ ?_
      · have h := ho
        clear ho
        simp only [VW.down, Nat.reduceEqDiff, reduceCtorEq, Nat.reduceAdd, Nat.reduceLeDiff, Nat.reduceLT, Nat.reduceBEq, Nat.reduceSub, EE.down]
        refine guardS (fun g14 => ?_) (fun g14 => ?_)
        · have h := (if_pos g14).symm.trans h
          simp only [VW.down, Nat.reduceEqDiff, reduceCtorEq, Nat.reduceAdd, Nat.reduceLeDiff, Nat.reduceLT, Nat.reduceBEq, Nat.reduceSub, EE.down]
          obtain rfl := Option.some.inj h
          exact eM [some 0, some 1] rfl
        · have h := (if_neg g14).symm.trans h
          simp only [VW.down, Nat.reduceEqDiff, reduceCtorEq, Nat.reduceAdd, Nat.reduceLeDiff, Nat.reduceLT, Nat.reduceBEq, Nat.reduceSub, EE.down]
          refine guardS (fun g15 => ?_) (fun g15 => ?_)
          · have h := (if_pos g15).symm.trans h
            simp only [VW.down, Nat.reduceEqDiff, reduceCtorEq, Nat.reduceAdd, Nat.reduceLeDiff, Nat.reduceLT, Nat.reduceBEq, Nat.reduceSub, EE.down]
            obtain rfl := Option.some.inj h
            exact eM [some 0, some 1] rfl
          · have h := (if_neg g15).symm.trans h
            simp only [VW.down, Nat.reduceEqDiff, reduceCtorEq, Nat.reduceAdd, Nat.reduceLeDiff, Nat.reduceLT, Nat.reduceBEq, Nat.reduceSub, EE.down]
            refine guardS (fun g16 => ?_) (fun g16 => ?_)
            · have h := (if_pos g16).symm.trans h
              simp only [VW.down, Nat.reduceEqDiff, reduceCtorEq, Nat.reduceAdd, Nat.reduceLeDiff, Nat.reduceLT, Nat.reduceBEq, Nat.reduceSub, EE.down]
              obtain rfl := Option.some.inj h
              exact eM [some 0, some 1] rfl
            · have h := (if_neg g16).symm.trans h
              simp only [VW.down, Nat.reduceEqDiff, reduceCtorEq, Nat.reduceAdd, Nat.reduceLeDiff, Nat.reduceLT, Nat.reduceBEq, Nat.reduceSub, EE.down]
              obtain ⟨t17, ht17, h⟩ := Option.bind_eq_some_iff.1 h
              refine callX_n [] (F45_ok ht17) ?_ ?_ ?_ ?_ ?_ ?_
              · first | rfl | simp [nrmA, nrmC, nrm, A1.ren, C.ren, rn, List.length_set]
              · simp [liveAll, A1.live, C.live]
              · rfl
              · decide
              · exact trivial
              simp only [VW.down, Nat.reduceEqDiff, reduceCtorEq, Nat.reduceAdd, Nat.reduceLeDiff, Nat.reduceLT, Nat.reduceBEq, Nat.reduceSub, EE.down]
              obtain rfl := Option.some.inj h
              exact eM [some 0, some 1] rfl
      · rintro _ rfl
        clear ho
        simp only [VW.down, Nat.reduceEqDiff, reduceCtorEq, Nat.reduceAdd, Nat.reduceLeDiff, Nat.reduceLT, Nat.reduceBEq, Nat.reduceSub, EE.down]
        refine condB (fun c18 => ?_) (fun c18 => ?_)
        · have h := (if_pos c18).symm.trans h
          simp only [VW.down, Nat.reduceEqDiff, reduceCtorEq, Nat.reduceAdd, Nat.reduceLeDiff, Nat.reduceLT, Nat.reduceBEq, Nat.reduceSub, EE.down]
          obtain rfl := Option.some.inj h
          exact eF []
        · have h := (if_neg c18).symm.trans h
          simp only [VW.down, Nat.reduceEqDiff, reduceCtorEq, Nat.reduceAdd, Nat.reduceLeDiff, Nat.reduceLT, Nat.reduceBEq, Nat.reduceSub, EE.down]
          obtain ⟨o19, ho, h⟩ := Option.bind_eq_some_iff.1 h
          refine cutS (fun s => ∃ po19, o19 = Sum.inr po19 ∧ s = ⟨[(2, .one (.c (.pt 0 0))), (3, .one (.c (.pt 1 0)))], [some (.box [.d (.v (.string x0.Kind)), .d (.v (.string x0.Namespace)), .d (.v (.string x0.Name)), .d (.v (.int .i64 x0.Uid)), .d (.v (.int .i64 x0.Version)), .d (.v (.int .i64 x0.Generation)), .d (.v (.int .i64 x0.Created)), .d (.v (.bool x0.Deleting)), .d (.v (.int .i64 x0.DeleteAt)), .d (.sl (x0.Labels.map eLabel)), .d (.sl (x0.Owners.map eOwner)), .d (.sl (x0.Finalizers.map eS)), .d (.sl (x0.Managers.map eManager))]), some (.box [.d (.v (.string x1.Kind)), .d (.v (.string x1.Namespace)), .d (.v (.string x1.Name)), .d (.v (.int .i64 x1.Uid)), .d (.v (.int .i64 x1.Version)), .d (.v (.int .i64 x1.Generation)), .d (.v (.int .i64 x1.Created)), .d (.v (.bool x1.Deleting)), .d (.v (.int .i64 x1.DeleteAt)), .d (.sl (x1.Labels.map eLabel)), .d (.sl (x1.Owners.map eOwner)), .d (.sl (x1.Finalizers.map eS)), .d (.sl (x1.Managers.map eManager))])]⟩) ?_ ?_
          · have h0o19 := h
            have h := ho
            clear ho
            obtain ⟨_, hk, h⟩ := Option.bind_eq_some_iff.1 h
            have hk := ck_some hk
            simp only [VW.down, Nat.reduceEqDiff, reduceCtorEq, Nat.reduceAdd, Nat.reduceLeDiff, Nat.reduceLT, Nat.reduceBEq, Nat.reduceSub, EE.down]
            refine bL (fun j s => ∃ (o19_0 : Nat), (o19_0 ≤ x0.Labels.length ∧ j = x0.Labels.length - o19_0) ∧ s = ⟨[(2, .one (.c (.pt 0 0))), (3, .one (.c (.pt 1 0))), (5, .one (.c (.d (.v (.int .i64 ((o19_0 : Int)))))))], [some (.box [.d (.v (.string x0.Kind)), .d (.v (.string x0.Namespace)), .d (.v (.string x0.Name)), .d (.v (.int .i64 x0.Uid)), .d (.v (.int .i64 x0.Version)), .d (.v (.int .i64 x0.Generation)), .d (.v (.int .i64 x0.Created)), .d (.v (.bool x0.Deleting)), .d (.v (.int .i64 x0.DeleteAt)), .d (.sl (x0.Labels.map eLabel)), .d (.sl (x0.Owners.map eOwner)), .d (.sl (x0.Finalizers.map eS)), .d (.sl (x0.Managers.map eManager))]), some (.box [.d (.v (.string x1.Kind)), .d (.v (.string x1.Namespace)), .d (.v (.string x1.Name)), .d (.v (.int .i64 x1.Uid)), .d (.v (.int .i64 x1.Version)), .d (.v (.int .i64 x1.Generation)), .d (.v (.int .i64 x1.Created)), .d (.v (.bool x1.Deleting)), .d (.v (.int .i64 x1.DeleteAt)), .d (.sl (x1.Labels.map eLabel)), .d (.sl (x1.Owners.map eOwner)), .d (.sl (x1.Finalizers.map eS)), .d (.sl (x1.Managers.map eManager))])]⟩ ∧ F21_l19 x1 (x0.Labels.drop o19_0) o19_0 = some o19) (x0.Labels.length - 0) [some 0, some 1] ⟨0, ⟨hk.1, rfl⟩, rfl, h⟩ ?_
            rintro _ _ ⟨o19_0, ⟨hi, rfl⟩, rfl, h⟩
            simp only [VW.down, Nat.reduceEqDiff, reduceCtorEq, Nat.reduceAdd, Nat.reduceLeDiff, Nat.reduceLT, Nat.reduceBEq, Nat.reduceSub, EE.down]
            refine condS (fun c20 => ?_) (fun c20 => ?_)
            · obtain ⟨xo19, hxo19, hd⟩ := countY (show (o19_0 : Int) < (x0.Labels.length : Int) from c20)
              rw [hd, F21_l19] at h
              simp only [VW.down, Nat.reduceEqDiff, reduceCtorEq, Nat.reduceAdd, Nat.reduceLeDiff, Nat.reduceLT, Nat.reduceBEq, Nat.reduceSub, EE.down]
              refine t_idxF (enc := eLabel) (xs := x0.Labels) rfl rfl hxo19 rfl ?_
              simp only [VW.down, Nat.reduceEqDiff, reduceCtorEq, Nat.reduceAdd, Nat.reduceLeDiff, Nat.reduceLT, Nat.reduceBEq, Nat.reduceSub, EE.down]
              obtain ⟨y21, hy21, h⟩ := Option.bind_eq_some_iff.1 h
              refine t_idxF (enc := eLabel) (xs := x1.Labels) rfl rfl hy21 rfl ?_
              simp only [VW.down, Nat.reduceEqDiff, reduceCtorEq, Nat.reduceAdd, Nat.reduceLeDiff, Nat.reduceLT, Nat.reduceBEq, Nat.reduceSub, EE.down]
              refine condS (fun c22 => ?_) (fun c22 => ?_)
              · have h := (if_pos c22).symm.trans h
                simp only [VW.down, Nat.reduceEqDiff, reduceCtorEq, Nat.reduceAdd, Nat.reduceLeDiff, Nat.reduceLT, Nat.reduceBEq, Nat.reduceSub, EE.down]
                obtain ⟨fh0o19, hfh0o19, rfl⟩ := Option.map_eq_some_iff.1 h
                have h := hfh0o19.trans h0o19
                obtain rfl := Option.some.inj h
                exact eF []
              · have h := (if_neg c22).symm.trans h
                simp only [VW.down, Nat.reduceEqDiff, reduceCtorEq, Nat.reduceAdd, Nat.reduceLeDiff, Nat.reduceLT, Nat.reduceBEq, Nat.reduceSub, EE.down]
                rw [wrapN (by omega)]
                exact eL' (x0.Labels.length - (o19_0 + 1)) [some 0, some 1] ⟨o19_0 + 1, ⟨by omega, rfl⟩, rfl, h⟩ (by omega)
            · rw [countN (show ¬ ((o19_0 : Int) < (x0.Labels.length : Int)) from c20), F21_l19] at h
              simp only [VW.down, Nat.reduceEqDiff, reduceCtorEq, Nat.reduceAdd, Nat.reduceLeDiff, Nat.reduceLT, Nat.reduceBEq, Nat.reduceSub, EE.down]
              obtain rfl := Option.some.inj h
              exact eM [some 0, some 1] ⟨_, rfl, rfl⟩
          · rintro _ ⟨po19, rfl, rfl⟩
            clear ho
            dsimp only at h
            simp only [VW.down, Nat.reduceEqDiff, reduceCtorEq, Nat.reduceAdd, Nat.reduceLeDiff, Nat.reduceLT, Nat.reduceBEq, Nat.reduceSub, EE.down]
            obtain ⟨o24, ho, h⟩ := Option.bind_eq_some_iff.1 h
            refine cutS (fun s => ∃ po24, o24 = Sum.inr po24 ∧ s = ⟨[(2, .one (.c (.pt 0 0))), (3, .one (.c (.pt 1 0)))], [some (.box [.d (.v (.string x0.Kind)), .d (.v (.string x0.Namespace)), .d (.v (.string x0.Name)), .d (.v (.int .i64 x0.Uid)), .d (.v (.int .i64 x0.Version)), .d (.v (.int .i64 x0.Generation)), .d (.v (.int .i64 x0.Created)), .d (.v (.bool x0.Deleting)), .d (.v (.int .i64 x0.DeleteAt)), .d (.sl (x0.Labels.map eLabel)), .d (.sl (x0.Owners.map eOwner)), .d (.sl (x0.Finalizers.map eS)), .d (.sl (x0.Managers.map eManager))]), some (.box [.d (.v (.string x1.Kind)), .d (.v (.string x1.Namespace)), .d (.v (.string x1.Name)), .d (.v (.int .i64 x1.Uid)), .d (.v (.int .i64 x1.Version)), .d (.v (.int .i64 x1.Generation)), .d (.v (.int .i64 x1.Created)), .d (.v (.bool x1.Deleting)), .d (.v (.int .i64 x1.DeleteAt)), .d (.sl (x1.Labels.map eLabel)), .d (.sl (x1.Owners.map eOwner)), .d (.sl (x1.Finalizers.map eS)), .d (.sl (x1.Managers.map eManager))])]⟩) ?_ ?_
            · have h0o24 := h
              have h := ho
              clear ho
              obtain ⟨_, hk, h⟩ := Option.bind_eq_some_iff.1 h
              have hk := ck_some hk
              simp only [VW.down, Nat.reduceEqDiff, reduceCtorEq, Nat.reduceAdd, Nat.reduceLeDiff, Nat.reduceLT, Nat.reduceBEq, Nat.reduceSub, EE.down]
              refine bL (fun j s => ∃ (o24_0 : Nat), (o24_0 ≤ x0.Owners.length ∧ j = x0.Owners.length - o24_0) ∧ s = ⟨[(2, .one (.c (.pt 0 0))), (3, .one (.c (.pt 1 0))), (6, .one (.c (.d (.v (.int .i64 ((o24_0 : Int)))))))], [some (.box [.d (.v (.string x0.Kind)), .d (.v (.string x0.Namespace)), .d (.v (.string x0.Name)), .d (.v (.int .i64 x0.Uid)), .d (.v (.int .i64 x0.Version)), .d (.v (.int .i64 x0.Generation)), .d (.v (.int .i64 x0.Created)), .d (.v (.bool x0.Deleting)), .d (.v (.int .i64 x0.DeleteAt)), .d (.sl (x0.Labels.map eLabel)), .d (.sl (x0.Owners.map eOwner)), .d (.sl (x0.Finalizers.map eS)), .d (.sl (x0.Managers.map eManager))]), some (.box [.d (.v (.string x1.Kind)), .d (.v (.string x1.Namespace)), .d (.v (.string x1.Name)), .d (.v (.int .i64 x1.Uid)), .d (.v (.int .i64 x1.Version)), .d (.v (.int .i64 x1.Generation)), .d (.v (.int .i64 x1.Created)), .d (.v (.bool x1.Deleting)), .d (.v (.int .i64 x1.DeleteAt)), .d (.sl (x1.Labels.map eLabel)), .d (.sl (x1.Owners.map eOwner)), .d (.sl (x1.Finalizers.map eS)), .d (.sl (x1.Managers.map eManager))])]⟩ ∧ F21_l24 x1 (x0.Owners.drop o24_0) o24_0 = some o24) (x0.Owners.length - 0) [some 0, some 1] ⟨0, ⟨hk.1, rfl⟩, rfl, h⟩ ?_
              rintro _ _ ⟨o24_0, ⟨hi, rfl⟩, rfl, h⟩
              simp only [VW.down, Nat.reduceEqDiff, reduceCtorEq, Nat.reduceAdd, Nat.reduceLeDiff, Nat.reduceLT, Nat.reduceBEq, Nat.reduceSub, EE.down]
              refine condS (fun c25 => ?_) (fun c25 => ?_)
              · obtain ⟨xo24, hxo24, hd⟩ := countY (show (o24_0 : Int) < (x0.Owners.length : Int) from c25)
                rw [hd, F21_l24] at h
                simp only [VW.down, Nat.reduceEqDiff, reduceCtorEq, Nat.reduceAdd, Nat.reduceLeDiff, Nat.reduceLT, Nat.reduceBEq, Nat.reduceSub, EE.down]
                refine t_idxF (enc := eOwner) (xs := x0.Owners) rfl rfl hxo24 rfl ?_
                simp only [VW.down, Nat.reduceEqDiff, reduceCtorEq, Nat.reduceAdd, Nat.reduceLeDiff, Nat.reduceLT, Nat.reduceBEq, Nat.reduceSub, EE.down]
                obtain ⟨y26, hy26, h⟩ := Option.bind_eq_some_iff.1 h
                refine t_idxF (enc := eOwner) (xs := x1.Owners) rfl rfl hy26 rfl ?_
                simp only [VW.down, Nat.reduceEqDiff, reduceCtorEq, Nat.reduceAdd, Nat.reduceLeDiff, Nat.reduceLT, Nat.reduceBEq, Nat.reduceSub, EE.down]
                refine condB (fun c27 => ?_) (fun c27 => ?_)
                · have h := (if_pos c27).symm.trans h
                  simp only [VW.down, Nat.reduceEqDiff, reduceCtorEq, Nat.reduceAdd, Nat.reduceLeDiff, Nat.reduceLT, Nat.reduceBEq, Nat.reduceSub, EE.down]
                  obtain ⟨fh0o24, hfh0o24, rfl⟩ := Option.map_eq_some_iff.1 h
                  have h := hfh0o24.trans h0o24
                  obtain rfl := Option.some.inj h
                  exact eF []
                · have h := (if_neg c27).symm.trans h
                  simp only [VW.down, Nat.reduceEqDiff, reduceCtorEq, Nat.reduceAdd, Nat.reduceLeDiff, Nat.reduceLT, Nat.reduceBEq, Nat.reduceSub, EE.down]
                  rw [wrapN (by omega)]
                  exact eL' (x0.Owners.length - (o24_0 + 1)) [some 0, some 1] ⟨o24_0 + 1, ⟨by omega, rfl⟩, rfl, h⟩ (by omega)
              · rw [countN (show ¬ ((o24_0 : Int) < (x0.Owners.length : Int)) from c25), F21_l24] at h
                simp only [VW.down, Nat.reduceEqDiff, reduceCtorEq, Nat.reduceAdd, Nat.reduceLeDiff, Nat.reduceLT, Nat.reduceBEq, Nat.reduceSub, EE.down]
                obtain rfl := Option.some.inj h
                exact eM [some 0, some 1] ⟨_, rfl, rfl⟩
            · rintro _ ⟨po24, rfl, rfl⟩
              clear ho
              dsimp only at h
              simp only [VW.down, Nat.reduceEqDiff, reduceCtorEq, Nat.reduceAdd, Nat.reduceLeDiff, Nat.reduceLT, Nat.reduceBEq, Nat.reduceSub, EE.down]
              obtain ⟨o29, ho, h⟩ := Option.bind_eq_some_iff.1 h
              refine cutS (fun s => ∃ po29, o29 = Sum.inr po29 ∧ s = ⟨[], []⟩) ?_ ?_
              · have h0o29 := h
                have h := ho
                clear ho
                obtain ⟨_, hk, h⟩ := Option.bind_eq_some_iff.1 h
                have hk := ck_some hk
                simp only [VW.down, Nat.reduceEqDiff, reduceCtorEq, Nat.reduceAdd, Nat.reduceLeDiff, Nat.reduceLT, Nat.reduceBEq, Nat.reduceSub, EE.down]
                refine bL (fun j s => ∃ (o29_0 : Nat), (o29_0 ≤ x0.Managers.length ∧ j = x0.Managers.length - o29_0) ∧ s = ⟨[(2, .one (.c (.pt 0 0))), (3, .one (.c (.pt 1 0))), (7, .one (.c (.d (.v (.int .i64 ((o29_0 : Int)))))))], [some (.box [.d (.v (.string x0.Kind)), .d (.v (.string x0.Namespace)), .d (.v (.string x0.Name)), .d (.v (.int .i64 x0.Uid)), .d (.v (.int .i64 x0.Version)), .d (.v (.int .i64 x0.Generation)), .d (.v (.int .i64 x0.Created)), .d (.v (.bool x0.Deleting)), .d (.v (.int .i64 x0.DeleteAt)), .d (.sl (x0.Labels.map eLabel)), .d (.sl (x0.Owners.map eOwner)), .d (.sl (x0.Finalizers.map eS)), .d (.sl (x0.Managers.map eManager))]), some (.box [.d (.v (.string x1.Kind)), .d (.v (.string x1.Namespace)), .d (.v (.string x1.Name)), .d (.v (.int .i64 x1.Uid)), .d (.v (.int .i64 x1.Version)), .d (.v (.int .i64 x1.Generation)), .d (.v (.int .i64 x1.Created)), .d (.v (.bool x1.Deleting)), .d (.v (.int .i64 x1.DeleteAt)), .d (.sl (x1.Labels.map eLabel)), .d (.sl (x1.Owners.map eOwner)), .d (.sl (x1.Finalizers.map eS)), .d (.sl (x1.Managers.map eManager))])]⟩ ∧ F21_l29 x1 (x0.Managers.drop o29_0) o29_0 = some o29) (x0.Managers.length - 0) [some 0, some 1] ⟨0, ⟨hk.1, rfl⟩, rfl, h⟩ ?_
                rintro _ _ ⟨o29_0, ⟨hi, rfl⟩, rfl, h⟩
                simp only [VW.down, Nat.reduceEqDiff, reduceCtorEq, Nat.reduceAdd, Nat.reduceLeDiff, Nat.reduceLT, Nat.reduceBEq, Nat.reduceSub, EE.down]
                refine condS (fun c30 => ?_) (fun c30 => ?_)
                · obtain ⟨xo29, hxo29, hd⟩ := countY (show (o29_0 : Int) < (x0.Managers.length : Int) from c30)
                  rw [hd, F21_l29] at h
                  simp only [VW.down, Nat.reduceEqDiff, reduceCtorEq, Nat.reduceAdd, Nat.reduceLeDiff, Nat.reduceLT, Nat.reduceBEq, Nat.reduceSub, EE.down]
                  obtain ⟨o31, ho, h⟩ := Option.bind_eq_some_iff.1 h
                  refine cutS (fun s => s = ⟨[(2, .one (.c (.pt 0 0))), (3, .one (.c (.pt 1 0))), (7, .one (.c (.d (.v (.int .i64 ((o29_0 : Int))))))), (173, .one (.c (.d (.v (.bool o31)))))], [some (.box [.d (.v (.string x0.Kind)), .d (.v (.string x0.Namespace)), .d (.v (.string x0.Name)), .d (.v (.int .i64 x0.Uid)), .d (.v (.int .i64 x0.Version)), .d (.v (.int .i64 x0.Generation)), .d (.v (.int .i64 x0.Created)), .d (.v (.bool x0.Deleting)), .d (.v (.int .i64 x0.DeleteAt)), .d (.sl (x0.Labels.map eLabel)), .d (.sl (x0.Owners.map eOwner)), .d (.sl (x0.Finalizers.map eS)), .d (.sl (x0.Managers.map eManager))]), some (.box [.d (.v (.string x1.Kind)), .d (.v (.string x1.Namespace)), .d (.v (.string x1.Name)), .d (.v (.int .i64 x1.Uid)), .d (.v (.int .i64 x1.Version)), .d (.v (.int .i64 x1.Generation)), .d (.v (.int .i64 x1.Created)), .d (.v (.bool x1.Deleting)), .d (.v (.int .i64 x1.DeleteAt)), .d (.sl (x1.Labels.map eLabel)), .d (.sl (x1.Owners.map eOwner)), .d (.sl (x1.Finalizers.map eS)), .d (.sl (x1.Managers.map eManager))])]⟩) ?_ ?_
                  · have h := ho
                    clear ho
                    simp only [VW.down, Nat.reduceEqDiff, reduceCtorEq, Nat.reduceAdd, Nat.reduceLeDiff, Nat.reduceLT, Nat.reduceBEq, Nat.reduceSub, EE.down]
                    refine t_idxF (enc := eManager) (xs := x0.Managers) rfl rfl hxo29 rfl ?_
                    simp only [VW.down, Nat.reduceEqDiff, reduceCtorEq, Nat.reduceAdd, Nat.reduceLeDiff, Nat.reduceLT, Nat.reduceBEq, Nat.reduceSub, EE.down]
                    obtain ⟨y32, hy32, h⟩ := Option.bind_eq_some_iff.1 h
                    refine t_idxF (enc := eManager) (xs := x1.Managers) rfl rfl hy32 rfl ?_
                    simp only [VW.down, Nat.reduceEqDiff, reduceCtorEq, Nat.reduceAdd, Nat.reduceLeDiff, Nat.reduceLT, Nat.reduceBEq, Nat.reduceSub, EE.down]
                    refine guardD (fun g33 => ?_) (fun g33 => ?_)
                    · have h := (if_pos g33).symm.trans h
                      simp only [VW.down, Nat.reduceEqDiff, reduceCtorEq, Nat.reduceAdd, Nat.reduceLeDiff, Nat.reduceLT, Nat.reduceBEq, Nat.reduceSub, EE.down]
                      obtain rfl := Option.some.inj h
                      exact eM [some 0, some 1] rfl
                    · have h := (if_neg g33).symm.trans h
                      simp only [VW.down, Nat.reduceEqDiff, reduceCtorEq, Nat.reduceAdd, Nat.reduceLeDiff, Nat.reduceLT, Nat.reduceBEq, Nat.reduceSub, EE.down]
                      refine t_idxF (enc := eManager) (xs := x0.Managers) rfl rfl hxo29 rfl ?_
                      simp only [VW.down, Nat.reduceEqDiff, reduceCtorEq, Nat.reduceAdd, Nat.reduceLeDiff, Nat.reduceLT, Nat.reduceBEq, Nat.reduceSub, EE.down]
                      refine t_idxF (enc := eManager) (xs := x1.Managers) rfl rfl hy32 rfl ?_
                      simp only [VW.down, Nat.reduceEqDiff, reduceCtorEq, Nat.reduceAdd, Nat.reduceLeDiff, Nat.reduceLT, Nat.reduceBEq, Nat.reduceSub, EE.down]
                      obtain ⟨t34, ht34, h⟩ := Option.bind_eq_some_iff.1 h
                      refine callX_n [] (F45_ok ht34) ?_ ?_ ?_ ?_ ?_ ?_
                      · first | rfl | simp [nrmA, nrmC, nrm, A1.ren, C.ren, rn, List.length_set]
                      · simp [liveAll, A1.live, C.live]
                      · rfl
                      · decide
                      · exact trivial
                      simp only [VW.down, Nat.reduceEqDiff, reduceCtorEq, Nat.reduceAdd, Nat.reduceLeDiff, Nat.reduceLT, Nat.reduceBEq, Nat.reduceSub, EE.down]
                      obtain rfl := Option.some.inj h
                      exact eM [some 0, some 1] rfl
                  · rintro _ rfl
                    clear ho
                    simp only [VW.down, Nat.reduceEqDiff, reduceCtorEq, Nat.reduceAdd, Nat.reduceLeDiff, Nat.reduceLT, Nat.reduceBEq, Nat.reduceSub, EE.down]
                    refine condB (fun c35 => ?_) (fun c35 => ?_)
                    · have h := (if_pos c35).symm.trans h
                      simp only [VW.down, Nat.reduceEqDiff, reduceCtorEq, Nat.reduceAdd, Nat.reduceLeDiff, Nat.reduceLT, Nat.reduceBEq, Nat.reduceSub, EE.down]
                      obtain ⟨fh0o29, hfh0o29, rfl⟩ := Option.map_eq_some_iff.1 h
                      have h := hfh0o29.trans h0o29
                      obtain rfl := Option.some.inj h
                      exact eF []
                    · have h := (if_neg c35).symm.trans h
                      simp only [VW.down, Nat.reduceEqDiff, reduceCtorEq, Nat.reduceAdd, Nat.reduceLeDiff, Nat.reduceLT, Nat.reduceBEq, Nat.reduceSub, EE.down]
                      rw [wrapN (by omega)]
                      exact eL' (x0.Managers.length - (o29_0 + 1)) [some 0, some 1] ⟨o29_0 + 1, ⟨by omega, rfl⟩, rfl, h⟩ (by omega)
                · rw [countN (show ¬ ((o29_0 : Int) < (x0.Managers.length : Int)) from c30), F21_l29] at h
                  simp only [VW.down, Nat.reduceEqDiff, reduceCtorEq, Nat.reduceAdd, Nat.reduceLeDiff, Nat.reduceLT, Nat.reduceBEq, Nat.reduceSub, EE.down]
                  obtain rfl := Option.some.inj h
                  exact eM [] ⟨_, rfl, rfl⟩
              · rintro _ ⟨po29, rfl, rfl⟩
                clear ho
                dsimp only at h
                simp only [VW.down, Nat.reduceEqDiff, reduceCtorEq, Nat.reduceAdd, Nat.reduceLeDiff, Nat.reduceLT, Nat.reduceBEq, Nat.reduceSub, EE.down]
                obtain rfl := Option.some.inj h
                exact eF []

/- orchestrator/orchestratorref54.Taints -/
def F17_l2 (x1 : (List Taint)) : List Taint → Nat → Option ((Bool) ⊕ (Unit))
  | [], o2_0 => some (Sum.inr (()))
  | xo2 :: xs, o2_0 => (rdI x1 ((o2_0 : Int))).bind fun y4 => (if ¬ (xo2.Key = y4.Key ∧ xo2.Value = y4.Value ∧ xo2.Effect = y4.Effect ∧ xo2.Since = y4.Since) then (some false).map Sum.inl else F17_l2 x1 xs (o2_0 + 1))
def F17 (x0 : (List Taint)) (x1 : (List Taint)) : Option (Bool) := (if ¬ ((x0.length : Int) = (x1.length : Int)) then some false else (((ck (0 ≤ x0.length ∧ x0.length ≤ 4294967290)).bind fun u6 => F17_l2 x1 x0 0).bind fun o2 => match o2 with | Sum.inl f => some f | Sum.inr po2 => some true))
def a17 : AFn := ⟨26, [(.tmp 4)],
 (.seq (.reg [⟨(some 4), none, .mv (kB false), [], (.new [])⟩])
 (.seq (.seq (.reg [⟨(some 6), none, .mv (.t 0), [], (.new [])⟩,
   ⟨(some 7), none, .len (.t 6), [], (.new [])⟩,
   ⟨(some 8), none, .mv (.t 1), [], (.new [])⟩,
   ⟨(some 9), none, .len (.t 8), [], (.new [])⟩,
   ⟨(some 10), none, .bin .neq (.t 7) (.t 9), [], (.new [])⟩])
 (.cond (.t 10)
 (.seq (.reg [⟨(some 4), none, .mv (kB false), [], (.new [])⟩])
 .ret)
 .skip))
 (.seq (.seq (.reg [⟨(some 5), none, .mv (kI 0), [], (.new [])⟩])
 (.sem (.block 0 (.loop (.seq (.seq (.reg [⟨(some 11), none, .mv (.t 5), [], (.new [])⟩,
   ⟨(some 12), none, .mv (.t 0), [], (.new [])⟩,
   ⟨(some 13), none, .len (.t 12), [], (.new [])⟩,
   ⟨(some 14), none, .bin .lss (.t 11) (.t 13), [], (.new [])⟩])
 (.cond (.t 14)
 .skip
 (.exit 0)))
 (.seq (.block 1 (.seq (.regd [⟨(some 17), none, .mv (.t 0), [], (.new [])⟩,
   ⟨(some 18), none, .mv (.t 5), [], (.new [])⟩,
   ⟨(some 19), none, .indexA 4 (.t 17) (.t 18), [0, 1], (.new [])⟩,
   ⟨(some 20), none, .load (some 4) (.t 19), [0, 1, 2], (.new [])⟩,
   ⟨(some 21), none, .mv (.t 1), [], (.new [])⟩,
   ⟨(some 22), none, .mv (.t 5), [], (.new [])⟩,
   ⟨(some 23), none, .indexA 4 (.t 21) (.t 22), [4, 5], (.new [])⟩,
   ⟨(some 24), none, .load (some 4) (.t 23), [4, 5, 6], (.new [])⟩,
   ⟨(some 25), none, .eqs true [(0, 2), (1, 2), (2, 0), (3, 0)] (.t 20) (.t 24), [0, 1, 2, 3, 4, 5, 6, 7], (.lone [])⟩])
 (.cond (.t 25)
 (.seq (.reg [⟨(some 4), none, .mv (kB false), [], (.new [])⟩])
 .ret)
 .skip)))
 (.reg [⟨(some 15), none, .mv (.t 5), [], (.new [])⟩,
   ⟨(some 16), none, .bin .add (.t 15) (kI 1), [], (.new [])⟩,
   ⟨(some 5), none, .mv (.t 16), [], (.new [])⟩])))))))
 (.seq (.reg [⟨(some 4), none, .mv (kB true), [], (.new [])⟩])
 .ret))))⟩
theorem a17_ok : afn Try.prog 17 = some a17.er := by kernel_rfl
theorem F17_ok {x0 : (List Taint)} {x1 : (List Taint)} {r : Bool} (h : F17 x0 x1 = some r) : CallD Try.prog 17 [.c (.d (.sl (x0.map eTaint))), .c (.d (.sl (x1.map eTaint)))] [] (tupV [.c (.d (.v (.bool r)))]) [] := by
  refine callS a17_ok (by simp [a17]) ?_
  rw [F17] at h
  simp only [a17, VW.down, Nat.reduceEqDiff, reduceCtorEq, Nat.reduceAdd, Nat.reduceLeDiff, Nat.reduceLT, Nat.reduceBEq, Nat.reduceSub, EE.down]
  refine condS (fun c1 => ?_) (fun c1 => ?_)
  · have h := (if_pos c1).symm.trans h
    simp only [VW.down, Nat.reduceEqDiff, reduceCtorEq, Nat.reduceAdd, Nat.reduceLeDiff, Nat.reduceLT, Nat.reduceBEq, Nat.reduceSub, EE.down]
    obtain rfl := Option.some.inj h
    exact eF []
  · have h := (if_neg c1).symm.trans h
    simp only [VW.down, Nat.reduceEqDiff, reduceCtorEq, Nat.reduceAdd, Nat.reduceLeDiff, Nat.reduceLT, Nat.reduceBEq, Nat.reduceSub, EE.down]
    obtain ⟨o2, ho, h⟩ := Option.bind_eq_some_iff.1 h
    refine cutS (fun s => ∃ po2, o2 = Sum.inr po2 ∧ s = ⟨[], []⟩) ?_ ?_
    · have h0o2 := h
      have h := ho
      clear ho
      obtain ⟨_, hk, h⟩ := Option.bind_eq_some_iff.1 h
      have hk := ck_some hk
      simp only [VW.down, Nat.reduceEqDiff, reduceCtorEq, Nat.reduceAdd, Nat.reduceLeDiff, Nat.reduceLT, Nat.reduceBEq, Nat.reduceSub, EE.down]
      refine bL (fun j s => ∃ (o2_0 : Nat), (o2_0 ≤ x0.length ∧ j = x0.length - o2_0) ∧ s = ⟨[(0, .one (.c (.d (.sl (x0.map eTaint))))), (1, .one (.c (.d (.sl (x1.map eTaint))))), (5, .one (.c (.d (.v (.int .i64 ((o2_0 : Int)))))))], []⟩ ∧ F17_l2 x1 (x0.drop o2_0) o2_0 = some o2) (x0.length - 0) [] ⟨0, ⟨hk.1, rfl⟩, rfl, h⟩ ?_
      rintro _ _ ⟨o2_0, ⟨hi, rfl⟩, rfl, h⟩
      simp only [VW.down, Nat.reduceEqDiff, reduceCtorEq, Nat.reduceAdd, Nat.reduceLeDiff, Nat.reduceLT, Nat.reduceBEq, Nat.reduceSub, EE.down]
      refine condS (fun c3 => ?_) (fun c3 => ?_)
      · obtain ⟨xo2, hxo2, hd⟩ := countY (show (o2_0 : Int) < (x0.length : Int) from c3)
        rw [hd, F17_l2] at h
        simp only [VW.down, Nat.reduceEqDiff, reduceCtorEq, Nat.reduceAdd, Nat.reduceLeDiff, Nat.reduceLT, Nat.reduceBEq, Nat.reduceSub, EE.down]
        refine t_idxF (enc := eTaint) (xs := x0) rfl rfl hxo2 rfl ?_
        simp only [VW.down, Nat.reduceEqDiff, reduceCtorEq, Nat.reduceAdd, Nat.reduceLeDiff, Nat.reduceLT, Nat.reduceBEq, Nat.reduceSub, EE.down]
        obtain ⟨y4, hy4, h⟩ := Option.bind_eq_some_iff.1 h
        refine t_idxF (enc := eTaint) (xs := x1) rfl rfl hy4 rfl ?_
        simp only [VW.down, Nat.reduceEqDiff, reduceCtorEq, Nat.reduceAdd, Nat.reduceLeDiff, Nat.reduceLT, Nat.reduceBEq, Nat.reduceSub, EE.down]
        refine condS (fun c5 => ?_) (fun c5 => ?_)
        · have h := (if_pos c5).symm.trans h
          simp only [VW.down, Nat.reduceEqDiff, reduceCtorEq, Nat.reduceAdd, Nat.reduceLeDiff, Nat.reduceLT, Nat.reduceBEq, Nat.reduceSub, EE.down]
          obtain ⟨fh0o2, hfh0o2, rfl⟩ := Option.map_eq_some_iff.1 h
          have h := hfh0o2.trans h0o2
          obtain rfl := Option.some.inj h
          exact eF []
        · have h := (if_neg c5).symm.trans h
          simp only [VW.down, Nat.reduceEqDiff, reduceCtorEq, Nat.reduceAdd, Nat.reduceLeDiff, Nat.reduceLT, Nat.reduceBEq, Nat.reduceSub, EE.down]
          rw [wrapN (by omega)]
          exact eL' (x0.length - (o2_0 + 1)) [] ⟨o2_0 + 1, ⟨by omega, rfl⟩, rfl, h⟩ (by omega)
      · rw [countN (show ¬ ((o2_0 : Int) < (x0.length : Int)) from c3), F17_l2] at h
        simp only [VW.down, Nat.reduceEqDiff, reduceCtorEq, Nat.reduceAdd, Nat.reduceLeDiff, Nat.reduceLT, Nat.reduceBEq, Nat.reduceSub, EE.down]
        obtain rfl := Option.some.inj h
        exact eM [] ⟨_, rfl, rfl⟩
    · rintro _ ⟨po2, rfl, rfl⟩
      clear ho
      dsimp only at h
      simp only [VW.down, Nat.reduceEqDiff, reduceCtorEq, Nat.reduceAdd, Nat.reduceLeDiff, Nat.reduceLT, Nat.reduceBEq, Nat.reduceSub, EE.down]
      obtain rfl := Option.some.inj h
      exact eF []

/- orchestrator/orchestratorref54.Same -/
def F8_l12 (x1 : Node) : List Image → Nat → Option ((Bool) ⊕ (Unit))
  | [], o12_0 => some (Sum.inr (()))
  | xo12 :: xs, o12_0 => (rdI x1.Images ((o12_0 : Int))).bind fun y14 => (if ¬ (xo12.Name = y14.Name ∧ xo12.Size = y14.Size ∧ xo12.Used = y14.Used) then (some false).map Sum.inl else F8_l12 x1 xs (o12_0 + 1))
def F8 (x0 : Node) (x1 : Node) : Option (Bool) := (((F21 x0.Meta x1.Meta).bind fun t2 => (if (nb t2) = true then some true else (if ¬ (x0.Capacity.CPU = x1.Capacity.CPU ∧ x0.Capacity.Memory = x1.Capacity.Memory ∧ x0.Capacity.Disk = x1.Capacity.Disk) then some true else (if ¬ (x0.MaxPods = x1.MaxPods) then some true else (if (((x0.Cordoned == x1.Cordoned) != true)) = true then some true else (if (((x0.Ready == x1.Ready) != true)) = true then some true else (if ¬ (x0.Beat = x1.Beat) then some true else (if (((x0.LowMem == x1.LowMem) != true)) = true then some true else (if (((x0.LowDisk == x1.LowDisk) != true)) = true then some true else some (decide (¬ ((x0.Images.length : Int) = (x1.Images.length : Int))))))))))))).bind fun o1 => (if o1 = true then some false else (((ck (0 ≤ x0.Images.length ∧ x0.Images.length ≤ 4294967290)).bind fun u16 => F8_l12 x1 x0.Images 0).bind fun o12 => match o12 with | Sum.inl f => some f | Sum.inr po12 => (F17 x0.Taints x1.Taints).bind fun t17 => some t17)))
def a8 : AFn := ⟨93, [(.tmp 4)],
 (.seq (.reg [⟨(some 2), none, .box (.t 0), [], (.new [])⟩,
   ⟨(some 3), none, .box (.t 1), [], (.new [])⟩,
   ⟨(some 4), none, .mv (kB false), [], (.new [])⟩])
 (.seq (.seq (.sem (.reg [⟨(some 6), none, .fieldA 0 (.t 2), [], (.new [])⟩,
   ⟨(some 7), none, .load (some 13) (.t 6), [], (.new [])⟩,
   ⟨(some 8), none, .fieldA 0 (.t 3), [], (.new [])⟩,
   ⟨(some 9), none, .load (some 13) (.t 8), [], (.new [])⟩,
   ⟨(some 10), none, .call 21 [(.t 7), (.t 9)], [], (.new [])⟩,
   ⟨(some 11), none, .not (.t 10), [], (.new [])⟩,
   ⟨(some 12), none, .mv (.t 11), [], (.new [])⟩,
   ⟨(some 13), (some (12, false)), .fieldA 13 (.t 2), [], (.new [])⟩,
   ⟨(some 14), (some (12, false)), .load (some 3) (.t 13), [], (.new [])⟩,
   ⟨(some 15), (some (12, false)), .fieldA 13 (.t 3), [], (.new [])⟩,
   ⟨(some 16), (some (12, false)), .load (some 3) (.t 15), [], (.new [])⟩,
   ⟨(some 17), (some (12, false)), .eqs true [(0, 0), (1, 0), (2, 0)] (.t 14) (.t 16), [], (.new [])⟩,
   ⟨(some 18), none, .pick (.t 12) (kB true) (.t 17), [], (.new [])⟩,
   ⟨(some 19), none, .mv (.t 18), [], (.new [])⟩,
   ⟨(some 20), (some (19, false)), .fieldA 16 (.t 2), [], (.new [])⟩,
   ⟨(some 21), (some (19, false)), .load none (.t 20), [], (.new [])⟩,
   ⟨(some 22), (some (19, false)), .fieldA 16 (.t 3), [], (.new [])⟩,
   ⟨(some 23), (some (19, false)), .load none (.t 22), [], (.new [])⟩,
   ⟨(some 24), (some (19, false)), .bin .neq (.t 21) (.t 23), [], (.new [])⟩,
   ⟨(some 25), none, .pick (.t 19) (kB true) (.t 24), [], (.new [])⟩,
   ⟨(some 26), none, .mv (.t 25), [], (.new [])⟩,
   ⟨(some 27), (some (26, false)), .fieldA 17 (.t 2), [], (.new [])⟩,
   ⟨(some 28), (some (26, false)), .load none (.t 27), [], (.new [])⟩,
   ⟨(some 29), (some (26, false)), .fieldA 17 (.t 3), [], (.new [])⟩,
   ⟨(some 30), (some (26, false)), .load none (.t 29), [], (.new [])⟩,
   ⟨(some 31), (some (26, false)), .beq true (.t 28) (.t 30), [], (.new [])⟩,
   ⟨(some 32), none, .pick (.t 26) (kB true) (.t 31), [], (.new [])⟩,
   ⟨(some 33), none, .mv (.t 32), [], (.new [])⟩,
   ⟨(some 34), (some (33, false)), .fieldA 19 (.t 2), [], (.new [])⟩,
   ⟨(some 35), (some (33, false)), .load none (.t 34), [], (.new [])⟩,
   ⟨(some 36), (some (33, false)), .fieldA 19 (.t 3), [], (.new [])⟩,
   ⟨(some 37), (some (33, false)), .load none (.t 36), [], (.new [])⟩,
   ⟨(some 38), (some (33, false)), .beq true (.t 35) (.t 37), [], (.new [])⟩,
   ⟨(some 39), none, .pick (.t 33) (kB true) (.t 38), [], (.new [])⟩,
   ⟨(some 40), none, .mv (.t 39), [], (.new [])⟩,
   ⟨(some 41), (some (40, false)), .fieldA 20 (.t 2), [], (.new [])⟩,
   ⟨(some 42), (some (40, false)), .load none (.t 41), [], (.new [])⟩,
   ⟨(some 43), (some (40, false)), .fieldA 20 (.t 3), [], (.new [])⟩,
   ⟨(some 44), (some (40, false)), .load none (.t 43), [], (.new [])⟩,
   ⟨(some 45), (some (40, false)), .bin .neq (.t 42) (.t 44), [], (.new [])⟩,
   ⟨(some 46), none, .pick (.t 40) (kB true) (.t 45), [], (.new [])⟩,
   ⟨(some 47), none, .mv (.t 46), [], (.new [])⟩,
   ⟨(some 48), (some (47, false)), .fieldA 21 (.t 2), [], (.new [])⟩,
   ⟨(some 49), (some (47, false)), .load none (.t 48), [], (.new [])⟩,
   ⟨(some 50), (some (47, false)), .fieldA 21 (.t 3), [], (.new [])⟩,
   ⟨(some 51), (some (47, false)), .load none (.t 50), [], (.new [])⟩,
   ⟨(some 52), (some (47, false)), .beq true (.t 49) (.t 51), [], (.new [])⟩,
   ⟨(some 53), none, .pick (.t 47) (kB true) (.t 52), [], (.new [])⟩,
   ⟨(some 54), none, .mv (.t 53), [], (.new [])⟩,
   ⟨(some 55), (some (54, false)), .fieldA 22 (.t 2), [], (.new [])⟩,
   ⟨(some 56), (some (54, false)), .load none (.t 55), [], (.new [])⟩,
   ⟨(some 57), (some (54, false)), .fieldA 22 (.t 3), [], (.new [])⟩,
   ⟨(some 58), (some (54, false)), .load none (.t 57), [], (.new [])⟩,
   ⟨(some 59), (some (54, false)), .beq true (.t 56) (.t 58), [], (.new [])⟩,
   ⟨(some 60), none, .pick (.t 54) (kB true) (.t 59), [], (.new [])⟩,
   ⟨(some 61), none, .mv (.t 60), [], (.new [])⟩,
   ⟨(some 62), (some (61, false)), .fieldA 23 (.t 2), [], (.new [])⟩,
   ⟨(some 63), (some (61, false)), .load none (.t 62), [], (.new [])⟩,
   ⟨(some 64), (some (61, false)), .len (.t 63), [], (.new [])⟩,
   ⟨(some 65), (some (61, false)), .fieldA 23 (.t 3), [], (.new [])⟩,
   ⟨(some 66), (some (61, false)), .load none (.t 65), [], (.new [])⟩,
   ⟨(some 67), (some (61, false)), .len (.t 66), [], (.new [])⟩,
   ⟨(some 68), (some (61, false)), .bin .neq (.t 64) (.t 67), [], (.new [])⟩,
   ⟨(some 69), none, .pick (.t 61) (kB true) (.t 68), [], (.new [])⟩]))
 (.cond (.t 69)
 (.seq (.reg [⟨(some 4), none, .mv (kB false), [], (.new [])⟩])
 .ret)
 .skip))
 (.seq (.seq (.reg [⟨(some 5), none, .mv (kI 0), [], (.new [])⟩])
 (.sem (.block 0 (.loop (.seq (.seq (.reg [⟨(some 70), none, .mv (.t 5), [], (.new [])⟩,
   ⟨(some 71), none, .fieldA 23 (.t 2), [], (.new [])⟩,
   ⟨(some 72), none, .load none (.t 71), [], (.new [])⟩,
   ⟨(some 73), none, .len (.t 72), [], (.new [])⟩,
   ⟨(some 74), none, .bin .lss (.t 70) (.t 73), [], (.new [])⟩])
 (.cond (.t 74)
 .skip
 (.exit 0)))
 (.seq (.block 1 (.seq (.regd [⟨(some 77), none, .fieldA 23 (.t 2), [], (.new [])⟩,
   ⟨(some 78), none, .load none (.t 77), [0], (.new [])⟩,
   ⟨(some 79), none, .mv (.t 5), [], (.new [])⟩,
   ⟨(some 80), none, .indexA 3 (.t 78) (.t 79), [0, 1, 2], (.new [])⟩,
   ⟨(some 81), none, .load (some 3) (.t 80), [0, 1, 2, 3], (.new [])⟩,
   ⟨(some 82), none, .fieldA 23 (.t 3), [], (.new [])⟩,
   ⟨(some 83), none, .load none (.t 82), [5], (.new [])⟩,
   ⟨(some 84), none, .mv (.t 5), [], (.new [])⟩,
   ⟨(some 85), none, .indexA 3 (.t 83) (.t 84), [5, 6, 7], (.new [])⟩,
   ⟨(some 86), none, .load (some 3) (.t 85), [5, 6, 7, 8], (.new [])⟩,
   ⟨(some 87), none, .eqs true [(0, 2), (1, 0), (2, 0)] (.t 81) (.t 86), [0, 1, 2, 3, 4, 5, 6, 7, 8, 9], (.lone [])⟩])
 (.cond (.t 87)
 (.seq (.reg [⟨(some 4), none, .mv (kB false), [], (.new [])⟩])
 .ret)
 .skip)))
 (.reg [⟨(some 75), none, .mv (.t 5), [], (.new [])⟩,
   ⟨(some 76), none, .bin .add (.t 75) (kI 1), [], (.new [])⟩,
   ⟨(some 5), none, .mv (.t 76), [], (.new [])⟩])))))))
 (.seq (.reg [⟨(some 88), none, .fieldA 18 (.t 2), [], (.new [])⟩,
   ⟨(some 89), none, .load none (.t 88), [], (.new [])⟩,
   ⟨(some 90), none, .fieldA 18 (.t 3), [], (.new [])⟩,
   ⟨(some 91), none, .load none (.t 90), [], (.new [])⟩,
   ⟨(some 92), none, .call 17 [(.t 89), (.t 91)], [], (.new [])⟩,
   ⟨(some 4), none, .mv (.t 92), [], (.new [])⟩])
 .ret))))⟩
theorem a8_ok : afn Try.prog 8 = some a8.er := by kernel_rfl
theorem F8_ok {x0 : Node} {x1 : Node} {r : Bool} (h : F8 x0 x1 = some r) : CallD Try.prog 8 [.agg [.d (.v (.string x0.Meta.Kind)), .d (.v (.string x0.Meta.Namespace)), .d (.v (.string x0.Meta.Name)), .d (.v (.int .i64 x0.Meta.Uid)), .d (.v (.int .i64 x0.Meta.Version)), .d (.v (.int .i64 x0.Meta.Generation)), .d (.v (.int .i64 x0.Meta.Created)), .d (.v (.bool x0.Meta.Deleting)), .d (.v (.int .i64 x0.Meta.DeleteAt)), .d (.sl (x0.Meta.Labels.map eLabel)), .d (.sl (x0.Meta.Owners.map eOwner)), .d (.sl (x0.Meta.Finalizers.map eS)), .d (.sl (x0.Meta.Managers.map eManager)), .d (.v (.int .i64 x0.Capacity.CPU)), .d (.v (.int .i64 x0.Capacity.Memory)), .d (.v (.int .i64 x0.Capacity.Disk)), .d (.v (.int .i64 x0.MaxPods)), .d (.v (.bool x0.Cordoned)), .d (.sl (x0.Taints.map eTaint)), .d (.v (.bool x0.Ready)), .d (.v (.int .i64 x0.Beat)), .d (.v (.bool x0.LowMem)), .d (.v (.bool x0.LowDisk)), .d (.sl (x0.Images.map eImage))], .agg [.d (.v (.string x1.Meta.Kind)), .d (.v (.string x1.Meta.Namespace)), .d (.v (.string x1.Meta.Name)), .d (.v (.int .i64 x1.Meta.Uid)), .d (.v (.int .i64 x1.Meta.Version)), .d (.v (.int .i64 x1.Meta.Generation)), .d (.v (.int .i64 x1.Meta.Created)), .d (.v (.bool x1.Meta.Deleting)), .d (.v (.int .i64 x1.Meta.DeleteAt)), .d (.sl (x1.Meta.Labels.map eLabel)), .d (.sl (x1.Meta.Owners.map eOwner)), .d (.sl (x1.Meta.Finalizers.map eS)), .d (.sl (x1.Meta.Managers.map eManager)), .d (.v (.int .i64 x1.Capacity.CPU)), .d (.v (.int .i64 x1.Capacity.Memory)), .d (.v (.int .i64 x1.Capacity.Disk)), .d (.v (.int .i64 x1.MaxPods)), .d (.v (.bool x1.Cordoned)), .d (.sl (x1.Taints.map eTaint)), .d (.v (.bool x1.Ready)), .d (.v (.int .i64 x1.Beat)), .d (.v (.bool x1.LowMem)), .d (.v (.bool x1.LowDisk)), .d (.sl (x1.Images.map eImage))]] [] (tupV [.c (.d (.v (.bool r)))]) [] := by
  refine callS a8_ok (by simp [a8]) ?_
  rw [F8] at h
  simp only [a8, VW.down, Nat.reduceEqDiff, reduceCtorEq, Nat.reduceAdd, Nat.reduceLeDiff, Nat.reduceLT, Nat.reduceBEq, Nat.reduceSub, EE.down]
  obtain ⟨o1, ho, h⟩ := Option.bind_eq_some_iff.1 h
  refine cutS (fun s => s = ⟨[(2, .one (.c (.pt 0 0))), (3, .one (.c (.pt 1 0))), (69, .one (.c (.d (.v (.bool o1)))))], [some (.box [.d (.v (.string x0.Meta.Kind)), .d (.v (.string x0.Meta.Namespace)), .d (.v (.string x0.Meta.Name)), .d (.v (.int .i64 x0.Meta.Uid)), .d (.v (.int .i64 x0.Meta.Version)), .d (.v (.int .i64 x0.Meta.Generation)), .d (.v (.int .i64 x0.Meta.Created)), .d (.v (.bool x0.Meta.Deleting)), .d (.v (.int .i64 x0.Meta.DeleteAt)), .d (.sl (x0.Meta.Labels.map eLabel)), .d (.sl (x0.Meta.Owners.map eOwner)), .d (.sl (x0.Meta.Finalizers.map eS)), .d (.sl (x0.Meta.Managers.map eManager)), .d (.v (.int .i64 x0.Capacity.CPU)), .d (.v (.int .i64 x0.Capacity.Memory)), .d (.v (.int .i64 x0.Capacity.Disk)), .d (.v (.int .i64 x0.MaxPods)), .d (.v (.bool x0.Cordoned)), .d (.sl (x0.Taints.map eTaint)), .d (.v (.bool x0.Ready)), .d (.v (.int .i64 x0.Beat)), .d (.v (.bool x0.LowMem)), .d (.v (.bool x0.LowDisk)), .d (.sl (x0.Images.map eImage))]), some (.box [.d (.v (.string x1.Meta.Kind)), .d (.v (.string x1.Meta.Namespace)), .d (.v (.string x1.Meta.Name)), .d (.v (.int .i64 x1.Meta.Uid)), .d (.v (.int .i64 x1.Meta.Version)), .d (.v (.int .i64 x1.Meta.Generation)), .d (.v (.int .i64 x1.Meta.Created)), .d (.v (.bool x1.Meta.Deleting)), .d (.v (.int .i64 x1.Meta.DeleteAt)), .d (.sl (x1.Meta.Labels.map eLabel)), .d (.sl (x1.Meta.Owners.map eOwner)), .d (.sl (x1.Meta.Finalizers.map eS)), .d (.sl (x1.Meta.Managers.map eManager)), .d (.v (.int .i64 x1.Capacity.CPU)), .d (.v (.int .i64 x1.Capacity.Memory)), .d (.v (.int .i64 x1.Capacity.Disk)), .d (.v (.int .i64 x1.MaxPods)), .d (.v (.bool x1.Cordoned)), .d (.sl (x1.Taints.map eTaint)), .d (.v (.bool x1.Ready)), .d (.v (.int .i64 x1.Beat)), .d (.v (.bool x1.LowMem)), .d (.v (.bool x1.LowDisk)), .d (.sl (x1.Images.map eImage))])]⟩) ?_ ?_
  · have h := ho
    clear ho
    simp only [VW.down, Nat.reduceEqDiff, reduceCtorEq, Nat.reduceAdd, Nat.reduceLeDiff, Nat.reduceLT, Nat.reduceBEq, Nat.reduceSub, EE.down]
    obtain ⟨t2, ht2, h⟩ := Option.bind_eq_some_iff.1 h
    refine callX_n [] (F21_ok ht2) ?_ ?_ ?_ ?_ ?_ ?_
    · first | rfl | simp [nrmA, nrmC, nrm, A1.ren, C.ren, rn, List.length_set]
    · simp [liveAll, A1.live, C.live]
    · rfl
    · decide
    · exact trivial
    simp only [VW.down, Nat.reduceEqDiff, reduceCtorEq, Nat.reduceAdd, Nat.reduceLeDiff, Nat.reduceLT, Nat.reduceBEq, Nat.reduceSub, EE.down]
    refine guardSB (fun g3 => ?_) (fun g3 => ?_)
    · have h := (if_pos g3).symm.trans h
      simp only [VW.down, Nat.reduceEqDiff, reduceCtorEq, Nat.reduceAdd, Nat.reduceLeDiff, Nat.reduceLT, Nat.reduceBEq, Nat.reduceSub, EE.down]
      obtain rfl := Option.some.inj h
      exact eM [some 0, some 1] rfl
    · have h := (if_neg g3).symm.trans h
      simp only [VW.down, Nat.reduceEqDiff, reduceCtorEq, Nat.reduceAdd, Nat.reduceLeDiff, Nat.reduceLT, Nat.reduceBEq, Nat.reduceSub, EE.down]
      refine guardS (fun g4 => ?_) (fun g4 => ?_)
      · have h := (if_pos g4).symm.trans h
        simp only [VW.down, Nat.reduceEqDiff, reduceCtorEq, Nat.reduceAdd, Nat.reduceLeDiff, Nat.reduceLT, Nat.reduceBEq, Nat.reduceSub, EE.down]
        obtain rfl := Option.some.inj h
        exact eM [some 0, some 1] rfl
      · have h := (if_neg g4).symm.trans h
        simp only [VW.down, Nat.reduceEqDiff, reduceCtorEq, Nat.reduceAdd, Nat.reduceLeDiff, Nat.reduceLT, Nat.reduceBEq, Nat.reduceSub, EE.down]
        refine guardS (fun g5 => ?_) (fun g5 => ?_)
        · have h := (if_pos g5).symm.trans h
          simp only [VW.down, Nat.reduceEqDiff, reduceCtorEq, Nat.reduceAdd, Nat.reduceLeDiff, Nat.reduceLT, Nat.reduceBEq, Nat.reduceSub, EE.down]
          obtain rfl := Option.some.inj h
          exact eM [some 0, some 1] rfl
        · have h := (if_neg g5).symm.trans h
          simp only [VW.down, Nat.reduceEqDiff, reduceCtorEq, Nat.reduceAdd, Nat.reduceLeDiff, Nat.reduceLT, Nat.reduceBEq, Nat.reduceSub, EE.down]
          refine guardSB (fun g6 => ?_) (fun g6 => ?_)
          · have h := (if_pos g6).symm.trans h
            simp only [VW.down, Nat.reduceEqDiff, reduceCtorEq, Nat.reduceAdd, Nat.reduceLeDiff, Nat.reduceLT, Nat.reduceBEq, Nat.reduceSub, EE.down]
            obtain rfl := Option.some.inj h
            exact eM [some 0, some 1] rfl
          · have h := (if_neg g6).symm.trans h
            simp only [VW.down, Nat.reduceEqDiff, reduceCtorEq, Nat.reduceAdd, Nat.reduceLeDiff, Nat.reduceLT, Nat.reduceBEq, Nat.reduceSub, EE.down]
            refine guardSB (fun g7 => ?_) (fun g7 => ?_)
            · have h := (if_pos g7).symm.trans h
              simp only [VW.down, Nat.reduceEqDiff, reduceCtorEq, Nat.reduceAdd, Nat.reduceLeDiff, Nat.reduceLT, Nat.reduceBEq, Nat.reduceSub, EE.down]
              obtain rfl := Option.some.inj h
              exact eM [some 0, some 1] rfl
            · have h := (if_neg g7).symm.trans h
              simp only [VW.down, Nat.reduceEqDiff, reduceCtorEq, Nat.reduceAdd, Nat.reduceLeDiff, Nat.reduceLT, Nat.reduceBEq, Nat.reduceSub, EE.down]
              refine guardS (fun g8 => ?_) (fun g8 => ?_)
              · have h := (if_pos g8).symm.trans h
                simp only [VW.down, Nat.reduceEqDiff, reduceCtorEq, Nat.reduceAdd, Nat.reduceLeDiff, Nat.reduceLT, Nat.reduceBEq, Nat.reduceSub, EE.down]
                obtain rfl := Option.some.inj h
                exact eM [some 0, some 1] rfl
              · have h := (if_neg g8).symm.trans h
                simp only [VW.down, Nat.reduceEqDiff, reduceCtorEq, Nat.reduceAdd, Nat.reduceLeDiff, Nat.reduceLT, Nat.reduceBEq, Nat.reduceSub, EE.down]
                refine guardSB (fun g9 => ?_) (fun g9 => ?_)
                · have h := (if_pos g9).symm.trans h
                  simp only [VW.down, Nat.reduceEqDiff, reduceCtorEq, Nat.reduceAdd, Nat.reduceLeDiff, Nat.reduceLT, Nat.reduceBEq, Nat.reduceSub, EE.down]
                  obtain rfl := Option.some.inj h
                  exact eM [some 0, some 1] rfl
                · have h := (if_neg g9).symm.trans h
                  simp only [VW.down, Nat.reduceEqDiff, reduceCtorEq, Nat.reduceAdd, Nat.reduceLeDiff, Nat.reduceLT, Nat.reduceBEq, Nat.reduceSub, EE.down]
                  refine guardSB (fun g10 => ?_) (fun g10 => ?_)
                  · have h := (if_pos g10).symm.trans h
                    simp only [VW.down, Nat.reduceEqDiff, reduceCtorEq, Nat.reduceAdd, Nat.reduceLeDiff, Nat.reduceLT, Nat.reduceBEq, Nat.reduceSub, EE.down]
                    obtain rfl := Option.some.inj h
                    exact eM [some 0, some 1] rfl
                  · have h := (if_neg g10).symm.trans h
                    simp only [VW.down, Nat.reduceEqDiff, reduceCtorEq, Nat.reduceAdd, Nat.reduceLeDiff, Nat.reduceLT, Nat.reduceBEq, Nat.reduceSub, EE.down]
                    obtain rfl := Option.some.inj h
                    exact eM [some 0, some 1] rfl
  · rintro _ rfl
    clear ho
    simp only [VW.down, Nat.reduceEqDiff, reduceCtorEq, Nat.reduceAdd, Nat.reduceLeDiff, Nat.reduceLT, Nat.reduceBEq, Nat.reduceSub, EE.down]
    refine condB (fun c11 => ?_) (fun c11 => ?_)
    · have h := (if_pos c11).symm.trans h
      simp only [VW.down, Nat.reduceEqDiff, reduceCtorEq, Nat.reduceAdd, Nat.reduceLeDiff, Nat.reduceLT, Nat.reduceBEq, Nat.reduceSub, EE.down]
      obtain rfl := Option.some.inj h
      exact eF []
    · have h := (if_neg c11).symm.trans h
      simp only [VW.down, Nat.reduceEqDiff, reduceCtorEq, Nat.reduceAdd, Nat.reduceLeDiff, Nat.reduceLT, Nat.reduceBEq, Nat.reduceSub, EE.down]
      obtain ⟨o12, ho, h⟩ := Option.bind_eq_some_iff.1 h
      refine cutS (fun s => ∃ po12, o12 = Sum.inr po12 ∧ s = ⟨[(2, .one (.c (.pt 0 0))), (3, .one (.c (.pt 1 0)))], [some (.box [.d (.v (.string x0.Meta.Kind)), .d (.v (.string x0.Meta.Namespace)), .d (.v (.string x0.Meta.Name)), .d (.v (.int .i64 x0.Meta.Uid)), .d (.v (.int .i64 x0.Meta.Version)), .d (.v (.int .i64 x0.Meta.Generation)), .d (.v (.int .i64 x0.Meta.Created)), .d (.v (.bool x0.Meta.Deleting)), .d (.v (.int .i64 x0.Meta.DeleteAt)), .d (.sl (x0.Meta.Labels.map eLabel)), .d (.sl (x0.Meta.Owners.map eOwner)), .d (.sl (x0.Meta.Finalizers.map eS)), .d (.sl (x0.Meta.Managers.map eManager)), .d (.v (.int .i64 x0.Capacity.CPU)), .d (.v (.int .i64 x0.Capacity.Memory)), .d (.v (.int .i64 x0.Capacity.Disk)), .d (.v (.int .i64 x0.MaxPods)), .d (.v (.bool x0.Cordoned)), .d (.sl (x0.Taints.map eTaint)), .d (.v (.bool x0.Ready)), .d (.v (.int .i64 x0.Beat)), .d (.v (.bool x0.LowMem)), .d (.v (.bool x0.LowDisk)), .d (.sl (x0.Images.map eImage))]), some (.box [.d (.v (.string x1.Meta.Kind)), .d (.v (.string x1.Meta.Namespace)), .d (.v (.string x1.Meta.Name)), .d (.v (.int .i64 x1.Meta.Uid)), .d (.v (.int .i64 x1.Meta.Version)), .d (.v (.int .i64 x1.Meta.Generation)), .d (.v (.int .i64 x1.Meta.Created)), .d (.v (.bool x1.Meta.Deleting)), .d (.v (.int .i64 x1.Meta.DeleteAt)), .d (.sl (x1.Meta.Labels.map eLabel)), .d (.sl (x1.Meta.Owners.map eOwner)), .d (.sl (x1.Meta.Finalizers.map eS)), .d (.sl (x1.Meta.Managers.map eManager)), .d (.v (.int .i64 x1.Capacity.CPU)), .d (.v (.int .i64 x1.Capacity.Memory)), .d (.v (.int .i64 x1.Capacity.Disk)), .d (.v (.int .i64 x1.MaxPods)), .d (.v (.bool x1.Cordoned)), .d (.sl (x1.Taints.map eTaint)), .d (.v (.bool x1.Ready)), .d (.v (.int .i64 x1.Beat)), .d (.v (.bool x1.LowMem)), .d (.v (.bool x1.LowDisk)), .d (.sl (x1.Images.map eImage))])]⟩) ?_ ?_
      · have h0o12 := h
        have h := ho
        clear ho
        obtain ⟨_, hk, h⟩ := Option.bind_eq_some_iff.1 h
        have hk := ck_some hk
        simp only [VW.down, Nat.reduceEqDiff, reduceCtorEq, Nat.reduceAdd, Nat.reduceLeDiff, Nat.reduceLT, Nat.reduceBEq, Nat.reduceSub, EE.down]
        refine bL (fun j s => ∃ (o12_0 : Nat), (o12_0 ≤ x0.Images.length ∧ j = x0.Images.length - o12_0) ∧ s = ⟨[(2, .one (.c (.pt 0 0))), (3, .one (.c (.pt 1 0))), (5, .one (.c (.d (.v (.int .i64 ((o12_0 : Int)))))))], [some (.box [.d (.v (.string x0.Meta.Kind)), .d (.v (.string x0.Meta.Namespace)), .d (.v (.string x0.Meta.Name)), .d (.v (.int .i64 x0.Meta.Uid)), .d (.v (.int .i64 x0.Meta.Version)), .d (.v (.int .i64 x0.Meta.Generation)), .d (.v (.int .i64 x0.Meta.Created)), .d (.v (.bool x0.Meta.Deleting)), .d (.v (.int .i64 x0.Meta.DeleteAt)), .d (.sl (x0.Meta.Labels.map eLabel)), .d (.sl (x0.Meta.Owners.map eOwner)), .d (.sl (x0.Meta.Finalizers.map eS)), .d (.sl (x0.Meta.Managers.map eManager)), .d (.v (.int .i64 x0.Capacity.CPU)), .d (.v (.int .i64 x0.Capacity.Memory)), .d (.v (.int .i64 x0.Capacity.Disk)), .d (.v (.int .i64 x0.MaxPods)), .d (.v (.bool x0.Cordoned)), .d (.sl (x0.Taints.map eTaint)), .d (.v (.bool x0.Ready)), .d (.v (.int .i64 x0.Beat)), .d (.v (.bool x0.LowMem)), .d (.v (.bool x0.LowDisk)), .d (.sl (x0.Images.map eImage))]), some (.box [.d (.v (.string x1.Meta.Kind)), .d (.v (.string x1.Meta.Namespace)), .d (.v (.string x1.Meta.Name)), .d (.v (.int .i64 x1.Meta.Uid)), .d (.v (.int .i64 x1.Meta.Version)), .d (.v (.int .i64 x1.Meta.Generation)), .d (.v (.int .i64 x1.Meta.Created)), .d (.v (.bool x1.Meta.Deleting)), .d (.v (.int .i64 x1.Meta.DeleteAt)), .d (.sl (x1.Meta.Labels.map eLabel)), .d (.sl (x1.Meta.Owners.map eOwner)), .d (.sl (x1.Meta.Finalizers.map eS)), .d (.sl (x1.Meta.Managers.map eManager)), .d (.v (.int .i64 x1.Capacity.CPU)), .d (.v (.int .i64 x1.Capacity.Memory)), .d (.v (.int .i64 x1.Capacity.Disk)), .d (.v (.int .i64 x1.MaxPods)), .d (.v (.bool x1.Cordoned)), .d (.sl (x1.Taints.map eTaint)), .d (.v (.bool x1.Ready)), .d (.v (.int .i64 x1.Beat)), .d (.v (.bool x1.LowMem)), .d (.v (.bool x1.LowDisk)), .d (.sl (x1.Images.map eImage))])]⟩ ∧ F8_l12 x1 (x0.Images.drop o12_0) o12_0 = some o12) (x0.Images.length - 0) [some 0, some 1] ⟨0, ⟨hk.1, rfl⟩, rfl, h⟩ ?_
        rintro _ _ ⟨o12_0, ⟨hi, rfl⟩, rfl, h⟩
        simp only [VW.down, Nat.reduceEqDiff, reduceCtorEq, Nat.reduceAdd, Nat.reduceLeDiff, Nat.reduceLT, Nat.reduceBEq, Nat.reduceSub, EE.down]
        refine condS (fun c13 => ?_) (fun c13 => ?_)
        · obtain ⟨xo12, hxo12, hd⟩ := countY (show (o12_0 : Int) < (x0.Images.length : Int) from c13)
          rw [hd, F8_l12] at h
          simp only [VW.down, Nat.reduceEqDiff, reduceCtorEq, Nat.reduceAdd, Nat.reduceLeDiff, Nat.reduceLT, Nat.reduceBEq, Nat.reduceSub, EE.down]
          refine t_idxF (enc := eImage) (xs := x0.Images) rfl rfl hxo12 rfl ?_
          simp only [VW.down, Nat.reduceEqDiff, reduceCtorEq, Nat.reduceAdd, Nat.reduceLeDiff, Nat.reduceLT, Nat.reduceBEq, Nat.reduceSub, EE.down]
          obtain ⟨y14, hy14, h⟩ := Option.bind_eq_some_iff.1 h
          refine t_idxF (enc := eImage) (xs := x1.Images) rfl rfl hy14 rfl ?_
          simp only [VW.down, Nat.reduceEqDiff, reduceCtorEq, Nat.reduceAdd, Nat.reduceLeDiff, Nat.reduceLT, Nat.reduceBEq, Nat.reduceSub, EE.down]
          refine condS (fun c15 => ?_) (fun c15 => ?_)
          · have h := (if_pos c15).symm.trans h
            simp only [VW.down, Nat.reduceEqDiff, reduceCtorEq, Nat.reduceAdd, Nat.reduceLeDiff, Nat.reduceLT, Nat.reduceBEq, Nat.reduceSub, EE.down]
            obtain ⟨fh0o12, hfh0o12, rfl⟩ := Option.map_eq_some_iff.1 h
            have h := hfh0o12.trans h0o12
            obtain rfl := Option.some.inj h
            exact eF []
          · have h := (if_neg c15).symm.trans h
            simp only [VW.down, Nat.reduceEqDiff, reduceCtorEq, Nat.reduceAdd, Nat.reduceLeDiff, Nat.reduceLT, Nat.reduceBEq, Nat.reduceSub, EE.down]
            rw [wrapN (by omega)]
            exact eL' (x0.Images.length - (o12_0 + 1)) [some 0, some 1] ⟨o12_0 + 1, ⟨by omega, rfl⟩, rfl, h⟩ (by omega)
        · rw [countN (show ¬ ((o12_0 : Int) < (x0.Images.length : Int)) from c13), F8_l12] at h
          simp only [VW.down, Nat.reduceEqDiff, reduceCtorEq, Nat.reduceAdd, Nat.reduceLeDiff, Nat.reduceLT, Nat.reduceBEq, Nat.reduceSub, EE.down]
          obtain rfl := Option.some.inj h
          exact eM [some 0, some 1] ⟨_, rfl, rfl⟩
      · rintro _ ⟨po12, rfl, rfl⟩
        clear ho
        dsimp only at h
        simp only [VW.down, Nat.reduceEqDiff, reduceCtorEq, Nat.reduceAdd, Nat.reduceLeDiff, Nat.reduceLT, Nat.reduceBEq, Nat.reduceSub, EE.down]
        obtain ⟨t17, ht17, h⟩ := Option.bind_eq_some_iff.1 h
        refine callX_n [] (F17_ok ht17) ?_ ?_ ?_ ?_ ?_ ?_
        · first | rfl | simp [nrmA, nrmC, nrm, A1.ren, C.ren, rn, List.length_set]
        · simp [liveAll, A1.live, C.live]
        · rfl
        · decide
        · exact trivial
        simp only [VW.down, Nat.reduceEqDiff, reduceCtorEq, Nat.reduceAdd, Nat.reduceLeDiff, Nat.reduceLT, Nat.reduceBEq, Nat.reduceSub, EE.down]
        obtain rfl := Option.some.inj h
        exact eF []

/- orchestrator/orchestratorlaw54.NodelifeChecks -/
def F3 (x0 : Node) (x1 : Int) (x2 : Int) : Option (Bool) := (if 50 < (x0.Taints.length : Int) then (F7).bind fun t2 => some t2 else (((F7).bind fun t4 => (if t4 = true then (F9 x0 x1 x2).bind fun t6 => (F10 x0 x1 x2).bind fun t7 => (F8 ((⟨(⟨x0.Meta.Kind, x0.Meta.Namespace, x0.Meta.Name, x0.Meta.Uid, x0.Meta.Version, x0.Meta.Generation, x0.Meta.Created, x0.Meta.Deleting, x0.Meta.DeleteAt, t6.1, t6.2.1, t6.2.2.1, t6.2.2.2.1⟩ : Meta), x0.Capacity, x0.MaxPods, x0.Cordoned, t6.2.2.2.2.1, decide (¬ ((if 1000000000000 < (if x2 < 0 then 0 else x2) then 1000000000000 else (if x2 < 0 then 0 else x2)) < (IntKind.i64.wrap (((if 1000000000000 < (if x1 < 0 then 0 else x1) then 1000000000000 else (if x1 < 0 then 0 else x1))) - ((if 1000000000000 < (if x0.Beat < 0 then 0 else x0.Beat) then 1000000000000 else (if x0.Beat < 0 then 0 else x0.Beat))))))), x0.Beat, x0.LowMem, x0.LowDisk, t6.2.2.2.2.2⟩ : Node)) ((⟨x0.Meta, x0.Capacity, x0.MaxPods, x0.Cordoned, t7, decide (¬ ((if (if 0 < x2 then x2 else 0) < 1000000000000 then (if 0 < x2 then x2 else 0) else 1000000000000) < (IntKind.i64.wrap (((if (if 0 < x1 then x1 else 0) < 1000000000000 then (if 0 < x1 then x1 else 0) else 1000000000000)) - ((if (if 0 < x0.Beat then x0.Beat else 0) < 1000000000000 then (if 0 < x0.Beat then x0.Beat else 0) else 1000000000000)))))), x0.Beat, x0.LowMem, x0.LowDisk, x0.Images⟩ : Node))).bind fun t8 => some t8 else some false)).bind fun o3 => some o3))
def a3 : AFn := ⟨24, [(.tmp 6)],
 (.seq (.reg [⟨(some 3), none, .box (.t 0), [], (.new [])⟩,
   ⟨(some 6), none, .mv (kB false), [], (.new [])⟩])
 (.seq (.seq (.reg [⟨(some 7), none, .fieldA 18 (.t 3), [], (.new [])⟩,
   ⟨(some 8), none, .load none (.t 7), [], (.new [])⟩,
   ⟨(some 9), none, .len (.t 8), [], (.new [])⟩,
   ⟨(some 10), none, .bin .gtr (.t 9) (kI 50), [], (.new [])⟩])
 (.cond (.t 10)
 (.seq (.reg [⟨(some 11), none, .call 7 [], [], (.new [])⟩,
   ⟨(some 6), none, .mv (.t 11), [], (.new [])⟩])
 .ret)
 .skip))
 (.seq (.sem (.regd [⟨(some 12), none, .call 7 [], [], (.lone [])⟩,
   ⟨(some 13), none, .mv (.t 12), [0], (.new [])⟩,
   ⟨(some 14), (some (13, true)), .load (some 24) (.t 3), [0, 1], (.new [])⟩,
   ⟨(some 15), (some (13, true)), .mv (.t 1), [0, 1], (.new [])⟩,
   ⟨(some 16), (some (13, true)), .mv (.t 2), [0, 1], (.new [])⟩,
   ⟨(some 17), (some (13, true)), .call 9 [(.t 14), (.t 15), (.t 16)], [0, 1, 2, 3, 4], (.new [2, 3, 4])⟩,
   ⟨(some 18), (some (13, true)), .load (some 24) (.t 3), [0, 1], (.new [])⟩,
   ⟨(some 19), (some (13, true)), .mv (.t 1), [0, 1], (.new [])⟩,
   ⟨(some 20), (some (13, true)), .mv (.t 2), [0, 1], (.new [])⟩,
   ⟨(some 21), (some (13, true)), .call 10 [(.t 18), (.t 19), (.t 20)], [0, 1, 2, 3, 4, 5, 6, 7, 8], (.lone [])⟩,
   ⟨(some 22), (some (13, true)), .call 8 [(.t 17), (.t 21)], [0, 1, 2, 3, 4, 5, 6, 7, 8, 9], (.lone [])⟩,
   ⟨(some 23), none, .pick (.t 13) (.t 22) (kB false), [0, 1, 2, 3, 4, 5, 6, 7, 8, 9, 10], (.lone [])⟩,
   ⟨(some 6), none, .mv (.t 23), [0, 1, 2, 3, 4, 5, 6, 7, 8, 9, 10, 11], (.new [])⟩]))
 .ret)))⟩
theorem a3_ok : afn Try.prog 3 = some a3.er := by kernel_rfl
theorem F3_ok {x0 : Node} {x1 : Int} {x2 : Int} {r : Bool} (h : F3 x0 x1 x2 = some r) : CallD Try.prog 3 [.agg [.d (.v (.string x0.Meta.Kind)), .d (.v (.string x0.Meta.Namespace)), .d (.v (.string x0.Meta.Name)), .d (.v (.int .i64 x0.Meta.Uid)), .d (.v (.int .i64 x0.Meta.Version)), .d (.v (.int .i64 x0.Meta.Generation)), .d (.v (.int .i64 x0.Meta.Created)), .d (.v (.bool x0.Meta.Deleting)), .d (.v (.int .i64 x0.Meta.DeleteAt)), .d (.sl (x0.Meta.Labels.map eLabel)), .d (.sl (x0.Meta.Owners.map eOwner)), .d (.sl (x0.Meta.Finalizers.map eS)), .d (.sl (x0.Meta.Managers.map eManager)), .d (.v (.int .i64 x0.Capacity.CPU)), .d (.v (.int .i64 x0.Capacity.Memory)), .d (.v (.int .i64 x0.Capacity.Disk)), .d (.v (.int .i64 x0.MaxPods)), .d (.v (.bool x0.Cordoned)), .d (.sl (x0.Taints.map eTaint)), .d (.v (.bool x0.Ready)), .d (.v (.int .i64 x0.Beat)), .d (.v (.bool x0.LowMem)), .d (.v (.bool x0.LowDisk)), .d (.sl (x0.Images.map eImage))], .c (.d (.v (.int .i64 x1))), .c (.d (.v (.int .i64 x2)))] [] (tupV [.c (.d (.v (.bool r)))]) [] := by
  refine callS a3_ok (by simp [a3]) ?_
  rw [F3] at h
  simp only [a3, VW.down, Nat.reduceEqDiff, reduceCtorEq, Nat.reduceAdd, Nat.reduceLeDiff, Nat.reduceLT, Nat.reduceBEq, Nat.reduceSub, EE.down]
  refine condS (fun c1 => ?_) (fun c1 => ?_)
  · have h := (if_pos c1).symm.trans h
    simp only [VW.down, Nat.reduceEqDiff, reduceCtorEq, Nat.reduceAdd, Nat.reduceLeDiff, Nat.reduceLT, Nat.reduceBEq, Nat.reduceSub, EE.down]
    obtain ⟨t2, ht2, h⟩ := Option.bind_eq_some_iff.1 h
    refine callX_n [] (F7_ok ht2) ?_ ?_ ?_ ?_ ?_ ?_
    · first | rfl | simp [nrmA, nrmC, nrm, A1.ren, C.ren, rn, List.length_set]
    · simp [liveAll, A1.live, C.live]
    · rfl
    · decide
    · exact trivial
    simp only [VW.down, Nat.reduceEqDiff, reduceCtorEq, Nat.reduceAdd, Nat.reduceLeDiff, Nat.reduceLT, Nat.reduceBEq, Nat.reduceSub, EE.down]
    obtain rfl := Option.some.inj h
    exact eF []
  · have h := (if_neg c1).symm.trans h
    simp only [VW.down, Nat.reduceEqDiff, reduceCtorEq, Nat.reduceAdd, Nat.reduceLeDiff, Nat.reduceLT, Nat.reduceBEq, Nat.reduceSub, EE.down]
    obtain ⟨o3, ho, h⟩ := Option.bind_eq_some_iff.1 h
    refine cutS (fun s => s = ⟨[(6, .one (.c (.d (.v (.bool o3)))))], []⟩) ?_ ?_
    · have h := ho
      clear ho
      simp only [VW.down, Nat.reduceEqDiff, reduceCtorEq, Nat.reduceAdd, Nat.reduceLeDiff, Nat.reduceLT, Nat.reduceBEq, Nat.reduceSub, EE.down]
      obtain ⟨t4, ht4, h⟩ := Option.bind_eq_some_iff.1 h
      refine callX_n [] (F7_ok ht4) ?_ ?_ ?_ ?_ ?_ ?_
      · first | rfl | simp [nrmA, nrmC, nrm, A1.ren, C.ren, rn, List.length_set]
      · simp [liveAll, A1.live, C.live]
      · rfl
      · decide
      · exact trivial
      simp only [VW.down, Nat.reduceEqDiff, reduceCtorEq, Nat.reduceAdd, Nat.reduceLeDiff, Nat.reduceLT, Nat.reduceBEq, Nat.reduceSub, EE.down]
      refine guardDB (fun g5 => ?_) (fun g5 => ?_)
      · have h := (if_pos g5).symm.trans h
        simp only [VW.down, Nat.reduceEqDiff, reduceCtorEq, Nat.reduceAdd, Nat.reduceLeDiff, Nat.reduceLT, Nat.reduceBEq, Nat.reduceSub, EE.down]
        obtain ⟨t6, ht6, h⟩ := Option.bind_eq_some_iff.1 h
        refine callX_n [] (F9_ok ht6) ?_ ?_ ?_ ?_ ?_ ?_
        · first | rfl | simp [nrmA, nrmC, nrm, A1.ren, C.ren, rn, List.length_set]
        · simp [liveAll, A1.live, C.live]
        · rfl
        · decide
        · exact trivial
        simp only [VW.down, Nat.reduceEqDiff, reduceCtorEq, Nat.reduceAdd, Nat.reduceLeDiff, Nat.reduceLT, Nat.reduceBEq, Nat.reduceSub, EE.down]
        refine kD_new (by simp [wrs, allW, hset]) ?_
        simp only [VW.down, Nat.reduceEqDiff, reduceCtorEq, Nat.reduceAdd, Nat.reduceLeDiff, Nat.reduceLT, Nat.reduceBEq, Nat.reduceSub, EE.down]
        obtain ⟨t7, ht7, h⟩ := Option.bind_eq_some_iff.1 h
        refine callX_n [] (F10_ok ht7) ?_ ?_ ?_ ?_ ?_ ?_
        · first | rfl | simp [nrmA, nrmC, nrm, A1.ren, C.ren, rn, List.length_set]
        · simp [liveAll, A1.live, C.live]
        · rfl
        · decide
        · exact trivial
        simp only [VW.down, Nat.reduceEqDiff, reduceCtorEq, Nat.reduceAdd, Nat.reduceLeDiff, Nat.reduceLT, Nat.reduceBEq, Nat.reduceSub, EE.down]
        obtain ⟨t8, ht8, h⟩ := Option.bind_eq_some_iff.1 h
        refine callX_bor (F8_ok ht8) (by simp only [borAs, bors, hp, List.getElem?_cons_zero, List.getElem?_cons_succ, Option.join_some, List.drop_zero, bor_full', true_and, Nat.zero_add, List.length_map, Nat.le_refl, nrm, List.length_cons, List.length_nil, Nat.reduceAdd, Nat.reduceLeDiff, List.take_succ_cons, List.take_zero, List.take_nil, List.map_cons, List.map_nil, List.length_set, EE.down]) rfl ?_
        simp only [VW.down, Nat.reduceEqDiff, reduceCtorEq, Nat.reduceAdd, Nat.reduceLeDiff, Nat.reduceLT, Nat.reduceBEq, Nat.reduceSub, EE.down]
        obtain rfl := Option.some.inj h
        exact eM [] rfl
      · have h := (if_neg g5).symm.trans h
        simp only [VW.down, Nat.reduceEqDiff, reduceCtorEq, Nat.reduceAdd, Nat.reduceLeDiff, Nat.reduceLT, Nat.reduceBEq, Nat.reduceSub, EE.down]
        obtain rfl := Option.some.inj h
        exact eM [] rfl
    · rintro _ rfl
      clear ho
      simp only [VW.down, Nat.reduceEqDiff, reduceCtorEq, Nat.reduceAdd, Nat.reduceLeDiff, Nat.reduceLT, Nat.reduceBEq, Nat.reduceSub, EE.down]
      obtain rfl := Option.some.inj h
      exact eF []

end Go.Proofs.Ytihhlgbcbmoblaa
