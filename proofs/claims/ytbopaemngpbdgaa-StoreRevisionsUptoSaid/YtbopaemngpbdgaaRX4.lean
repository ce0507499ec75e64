/- Each Go function as a function over typed data, and its walk. -/
import Derived.Test.YtbopaemngpbdgaaRX3
namespace Go.Proofs.Ytbopaemngpbdgaa
open Go Go.Fw Go.Shelf
set_option maxRecDepth 100000
set_option maxHeartbeats 4000000
set_option linter.unusedSimpArgs false
set_option linter.unusedVariables false
/- orchestrator/orchestratorref13.SameMeta -/
def F56_l19 (x1 : Meta) : List Label → Nat → Option ((Bool) ⊕ (Unit))
  | [], o19_0 => some (Sum.inr (()))
  | xo19 :: xs, o19_0 => (rdI x1.Labels ((o19_0 : Int))).bind fun y21 => (if ¬ (xo19.Key = y21.Key ∧ xo19.Value = y21.Value) then (some false).map Sum.inl else F56_l19 x1 xs (o19_0 + 1))
def F56_l24 (x1 : Meta) : List Owner → Nat → Option ((Bool) ⊕ (Unit))
  | [], o24_0 => some (Sum.inr (()))
  | xo24 :: xs, o24_0 => (rdI x1.Owners ((o24_0 : Int))).bind fun y26 => (if (nb ((decide (xo24.Kind = y26.Kind) && (decide (xo24.Name = y26.Name) && (decide (xo24.Uid = y26.Uid) && ((xo24.Controller == y26.Controller) && (xo24.Block == y26.Block))))))) = true then (some false).map Sum.inl else F56_l24 x1 xs (o24_0 + 1))
def F56_l29 (x1 : Meta) : List Manager → Nat → Option ((Bool) ⊕ (Unit))
  | [], o29_0 => some (Sum.inr (()))
  | xo29 :: xs, o29_0 => (((rdI x1.Managers ((o29_0 : Int))).bind fun y32 => (if ¬ (xo29.Name = y32.Name) then some true else (F78 xo29.Fields y32.Fields).bind fun t34 => some (nb t34))).bind fun o31 => (if o31 = true then (some false).map Sum.inl else F56_l29 x1 xs (o29_0 + 1)))
def F56 (x0 : Meta) (x1 : Meta) : Option (Bool) := (((F54 x0).bind fun t2 => (F54 x1).bind fun t3 => (if ¬ (t2 = t3) then some true else (if ¬ (x0.Kind = x1.Kind) then some true else (if ¬ (x0.Namespace = x1.Namespace) then some true else (if ¬ (x0.Uid = x1.Uid) then some true else (if ¬ (x0.Version = x1.Version) then some true else (if ¬ (x0.Generation = x1.Generation) then some true else (if ¬ (x0.Created = x1.Created) then some true else (if (((x0.Deleting == x1.Deleting) != true)) = true then some true else some (decide (¬ (x0.DeleteAt = x1.DeleteAt)))))))))))).bind fun o1 => (if o1 = true then some false else (((if ¬ ((x0.Labels.length : Int) = (x1.Labels.length : Int)) then some true else (if ¬ ((x0.Owners.length : Int) = (x1.Owners.length : Int)) then some true else (if ¬ ((x0.Managers.length : Int) = (x1.Managers.length : Int)) then some true else (F78 x0.Finalizers x1.Finalizers).bind fun t17 => some (nb t17))))).bind fun o13 => (if o13 = true then some false else (((ck (0 ≤ x0.Labels.length ∧ x0.Labels.length ≤ 4294967290)).bind fun u23 => F56_l19 x1 x0.Labels 0 : Option ((Bool) ⊕ (Unit))).bind fun o19 => match o19 with | Sum.inl f => some f | Sum.inr po19 => (((ck (0 ≤ x0.Owners.length ∧ x0.Owners.length ≤ 4294967290)).bind fun u28 => F56_l24 x1 x0.Owners 0 : Option ((Bool) ⊕ (Unit))).bind fun o24 => match o24 with | Sum.inl f => some f | Sum.inr po24 => (((ck (0 ≤ x0.Managers.length ∧ x0.Managers.length ≤ 4294967290)).bind fun u36 => F56_l29 x1 x0.Managers 0 : Option ((Bool) ⊕ (Unit))).bind fun o29 => match o29 with | Sum.inl f => some f | Sum.inr po29 => some true)))))))
def a56 : AFn := ⟨174, [(.tmp 4)],
 (.seq (.reg [sq 2 (.box (.t 0)),
sq 3 (.box (.t 1)),
sq 4 (.mv (kB false))])
 (.seq (.seq (.sem (.regd [sq 8 (.load (some 13) (.t 2)),
⟨(some 9), none, .call 54 [(.t 8)], [0], (.new [0])⟩,
sq 10 (.load (some 13) (.t 3)),
⟨(some 11), none, .call 54 [(.t 10)], [0, 1, 2], (.lone [])⟩,
sd 12 (.bin .neq (.t 9) (.t 11)) [0, 1, 2, 3],
sd 13 (.mv (.t 12)) [0, 1, 2, 3, 4],
⟨(some 14), (some (13, false)), .fieldA 0 (.t 2), [0, 1, 2, 3, 4, 5], (.new [])⟩,
⟨(some 15), (some (13, false)), .load none (.t 14), [0, 1, 2, 3, 4, 5, 6], (.new [])⟩,
⟨(some 16), (some (13, false)), .fieldA 0 (.t 3), [0, 1, 2, 3, 4, 5], (.new [])⟩,
⟨(some 17), (some (13, false)), .load none (.t 16), [0, 1, 2, 3, 4, 5, 8], (.new [])⟩,
⟨(some 18), (some (13, false)), .bin .neq (.t 15) (.t 17), [0, 1, 2, 3, 4, 5, 6, 7, 8, 9], (.new [])⟩,
⟨(some 19), none, .pick (.t 13) (kB true) (.t 18), [0, 1, 2, 3, 4, 5, 6, 7, 8, 9, 10], (.lone [])⟩,
sd 20 (.mv (.t 19)) [0, 1, 2, 3, 4, 5, 6, 7, 8, 9, 10, 11],
⟨(some 21), (some (20, false)), .fieldA 1 (.t 2), [0, 1, 2, 3, 4, 5, 6, 7, 8, 9, 10, 11, 12], (.new [])⟩,
⟨(some 22), (some (20, false)), .load none (.t 21), [0, 1, 2, 3, 4, 5, 6, 7, 8, 9, 10, 11, 12, 13], (.new [])⟩,
⟨(some 23), (some (20, false)), .fieldA 1 (.t 3), [0, 1, 2, 3, 4, 5, 6, 7, 8, 9, 10, 11, 12], (.new [])⟩,
⟨(some 24), (some (20, false)), .load none (.t 23), [0, 1, 2, 3, 4, 5, 6, 7, 8, 9, 10, 11, 12, 15], (.new [])⟩,
⟨(some 25), (some (20, false)), .bin .neq (.t 22) (.t 24), [0, 1, 2, 3, 4, 5, 6, 7, 8, 9, 10, 11, 12, 13, 14, 15, 16], (.new [])⟩,
⟨(some 26), none, .pick (.t 20) (kB true) (.t 25), [0, 1, 2, 3, 4, 5, 6, 7, 8, 9, 10, 11, 12, 13, 14, 15, 16, 17], (.lone [])⟩,
sd 27 (.mv (.t 26)) [0, 1, 2, 3, 4, 5, 6, 7, 8, 9, 10, 11, 12, 13, 14, 15, 16, 17, 18],
⟨(some 28), (some (27, false)), .fieldA 3 (.t 2), [0, 1, 2, 3, 4, 5, 6, 7, 8, 9, 10, 11, 12, 13, 14, 15, 16, 17, 18, 19], (.new [])⟩,
⟨(some 29), (some (27, false)), .load none (.t 28), [0, 1, 2, 3, 4, 5, 6, 7, 8, 9, 10, 11, 12, 13, 14, 15, 16, 17, 18, 19, 20], (.new [])⟩,
⟨(some 30), (some (27, false)), .fieldA 3 (.t 3), [0, 1, 2, 3, 4, 5, 6, 7, 8, 9, 10, 11, 12, 13, 14, 15, 16, 17, 18, 19], (.new [])⟩,
⟨(some 31), (some (27, false)), .load none (.t 30), [0, 1, 2, 3, 4, 5, 6, 7, 8, 9, 10, 11, 12, 13, 14, 15, 16, 17, 18, 19, 22], (.new [])⟩,
⟨(some 32), (some (27, false)), .bin .neq (.t 29) (.t 31), [0, 1, 2, 3, 4, 5, 6, 7, 8, 9, 10, 11, 12, 13, 14, 15, 16, 17, 18, 19, 20, 21, 22, 23], (.new [])⟩,
⟨(some 33), none, .pick (.t 27) (kB true) (.t 32), [0, 1, 2, 3, 4, 5, 6, 7, 8, 9, 10, 11, 12, 13, 14, 15, 16, 17, 18, 19, 20, 21, 22, 23, 24], (.lone [])⟩,
sd 34 (.mv (.t 33)) [0, 1, 2, 3, 4, 5, 6, 7, 8, 9, 10, 11, 12, 13, 14, 15, 16, 17, 18, 19, 20, 21, 22, 23, 24, 25],
⟨(some 35), (some (34, false)), .fieldA 4 (.t 2), [0, 1, 2, 3, 4, 5, 6, 7, 8, 9, 10, 11, 12, 13, 14, 15, 16, 17, 18, 19, 20, 21, 22, 23, 24, 25, 26], (.new [])⟩,
⟨(some 36), (some (34, false)), .load none (.t 35), [0, 1, 2, 3, 4, 5, 6, 7, 8, 9, 10, 11, 12, 13, 14, 15, 16, 17, 18, 19, 20, 21, 22, 23, 24, 25, 26, 27], (.new [])⟩,
⟨(some 37), (some (34, false)), .fieldA 4 (.t 3), [0, 1, 2, 3, 4, 5, 6, 7, 8, 9, 10, 11, 12, 13, 14, 15, 16, 17, 18, 19, 20, 21, 22, 23, 24, 25, 26], (.new [])⟩,
⟨(some 38), (some (34, false)), .load none (.t 37), [0, 1, 2, 3, 4, 5, 6, 7, 8, 9, 10, 11, 12, 13, 14, 15, 16, 17, 18, 19, 20, 21, 22, 23, 24, 25, 26, 29], (.new [])⟩,
⟨(some 39), (some (34, false)), .bin .neq (.t 36) (.t 38), [0, 1, 2, 3, 4, 5, 6, 7, 8, 9, 10, 11, 12, 13, 14, 15, 16, 17, 18, 19, 20, 21, 22, 23, 24, 25, 26, 27, 28, 29, 30], (.new [])⟩,
⟨(some 40), none, .pick (.t 34) (kB true) (.t 39), [0, 1, 2, 3, 4, 5, 6, 7, 8, 9, 10, 11, 12, 13, 14, 15, 16, 17, 18, 19, 20, 21, 22, 23, 24, 25, 26, 27, 28, 29, 30, 31], (.lone [])⟩,
sd 41 (.mv (.t 40)) [0, 1, 2, 3, 4, 5, 6, 7, 8, 9, 10, 11, 12, 13, 14, 15, 16, 17, 18, 19, 20, 21, 22, 23, 24, 25, 26, 27, 28, 29, 30, 31, 32],
⟨(some 42), (some (41, false)), .fieldA 5 (.t 2), [0, 1, 2, 3, 4, 5, 6, 7, 8, 9, 10, 11, 12, 13, 14, 15, 16, 17, 18, 19, 20, 21, 22, 23, 24, 25, 26, 27, 28, 29, 30, 31, 32, 33], (.new [])⟩,
⟨(some 43), (some (41, false)), .load none (.t 42), [0, 1, 2, 3, 4, 5, 6, 7, 8, 9, 10, 11, 12, 13, 14, 15, 16, 17, 18, 19, 20, 21, 22, 23, 24, 25, 26, 27, 28, 29, 30, 31, 32, 33, 34], (.new [])⟩,
⟨(some 44), (some (41, false)), .fieldA 5 (.t 3), [0, 1, 2, 3, 4, 5, 6, 7, 8, 9, 10, 11, 12, 13, 14, 15, 16, 17, 18, 19, 20, 21, 22, 23, 24, 25, 26, 27, 28, 29, 30, 31, 32, 33], (.new [])⟩,
⟨(some 45), (some (41, false)), .load none (.t 44), [0, 1, 2, 3, 4, 5, 6, 7, 8, 9, 10, 11, 12, 13, 14, 15, 16, 17, 18, 19, 20, 21, 22, 23, 24, 25, 26, 27, 28, 29, 30, 31, 32, 33, 36], (.new [])⟩,
⟨(some 46), (some (41, false)), .bin .neq (.t 43) (.t 45), [0, 1, 2, 3, 4, 5, 6, 7, 8, 9, 10, 11, 12, 13, 14, 15, 16, 17, 18, 19, 20, 21, 22, 23, 24, 25, 26, 27, 28, 29, 30, 31, 32, 33, 34, 35, 36, 37], (.new [])⟩,
⟨(some 47), none, .pick (.t 41) (kB true) (.t 46), [0, 1, 2, 3, 4, 5, 6, 7, 8, 9, 10, 11, 12, 13, 14, 15, 16, 17, 18, 19, 20, 21, 22, 23, 24, 25, 26, 27, 28, 29, 30, 31, 32, 33, 34, 35, 36, 37, 38], (.lone [])⟩,
sd 48 (.mv (.t 47)) [0, 1, 2, 3, 4, 5, 6, 7, 8, 9, 10, 11, 12, 13, 14, 15, 16, 17, 18, 19, 20, 21, 22, 23, 24, 25, 26, 27, 28, 29, 30, 31, 32, 33, 34, 35, 36, 37, 38, 39],
⟨(some 49), (some (48, false)), .fieldA 6 (.t 2), [0, 1, 2, 3, 4, 5, 6, 7, 8, 9, 10, 11, 12, 13, 14, 15, 16, 17, 18, 19, 20, 21, 22, 23, 24, 25, 26, 27, 28, 29, 30, 31, 32, 33, 34, 35, 36, 37, 38, 39, 40], (.new [])⟩,
⟨(some 50), (some (48, false)), .load none (.t 49), [0, 1, 2, 3, 4, 5, 6, 7, 8, 9, 10, 11, 12, 13, 14, 15, 16, 17, 18, 19, 20, 21, 22, 23, 24, 25, 26, 27, 28, 29, 30, 31, 32, 33, 34, 35, 36, 37, 38, 39, 40, 41], (.new [])⟩,
⟨(some 51), (some (48, false)), .fieldA 6 (.t 3), [0, 1, 2, 3, 4, 5, 6, 7, 8, 9, 10, 11, 12, 13, 14, 15, 16, 17, 18, 19, 20, 21, 22, 23, 24, 25, 26, 27, 28, 29, 30, 31, 32, 33, 34, 35, 36, 37, 38, 39, 40], (.new [])⟩,
⟨(some 52), (some (48, false)), .load none (.t 51), [0, 1, 2, 3, 4, 5, 6, 7, 8, 9, 10, 11, 12, 13, 14, 15, 16, 17, 18, 19, 20, 21, 22, 23, 24, 25, 26, 27, 28, 29, 30, 31, 32, 33, 34, 35, 36, 37, 38, 39, 40, 43], (.new [])⟩,
⟨(some 53), (some (48, false)), .bin .neq (.t 50) (.t 52), [0, 1, 2, 3, 4, 5, 6, 7, 8, 9, 10, 11, 12, 13, 14, 15, 16, 17, 18, 19, 20, 21, 22, 23, 24, 25, 26, 27, 28, 29, 30, 31, 32, 33, 34, 35, 36, 37, 38, 39, 40, 41, 42, 43, 44], (.new [])⟩,
⟨(some 54), none, .pick (.t 48) (kB true) (.t 53), [0, 1, 2, 3, 4, 5, 6, 7, 8, 9, 10, 11, 12, 13, 14, 15, 16, 17, 18, 19, 20, 21, 22, 23, 24, 25, 26, 27, 28, 29, 30, 31, 32, 33, 34, 35, 36, 37, 38, 39, 40, 41, 42, 43, 44, 45], (.lone [])⟩,
sd 55 (.mv (.t 54)) [0, 1, 2, 3, 4, 5, 6, 7, 8, 9, 10, 11, 12, 13, 14, 15, 16, 17, 18, 19, 20, 21, 22, 23, 24, 25, 26, 27, 28, 29, 30, 31, 32, 33, 34, 35, 36, 37, 38, 39, 40, 41, 42, 43, 44, 45, 46],
⟨(some 56), (some (55, false)), .fieldA 7 (.t 2), [0, 1, 2, 3, 4, 5, 6, 7, 8, 9, 10, 11, 12, 13, 14, 15, 16, 17, 18, 19, 20, 21, 22, 23, 24, 25, 26, 27, 28, 29, 30, 31, 32, 33, 34, 35, 36, 37, 38, 39, 40, 41, 42, 43, 44, 45, 46, 47], (.new [])⟩,
⟨(some 57), (some (55, false)), .load none (.t 56), [0, 1, 2, 3, 4, 5, 6, 7, 8, 9, 10, 11, 12, 13, 14, 15, 16, 17, 18, 19, 20, 21, 22, 23, 24, 25, 26, 27, 28, 29, 30, 31, 32, 33, 34, 35, 36, 37, 38, 39, 40, 41, 42, 43, 44, 45, 46, 47, 48], (.new [])⟩,
⟨(some 58), (some (55, false)), .fieldA 7 (.t 3), [0, 1, 2, 3, 4, 5, 6, 7, 8, 9, 10, 11, 12, 13, 14, 15, 16, 17, 18, 19, 20, 21, 22, 23, 24, 25, 26, 27, 28, 29, 30, 31, 32, 33, 34, 35, 36, 37, 38, 39, 40, 41, 42, 43, 44, 45, 46, 47], (.new [])⟩,
⟨(some 59), (some (55, false)), .load none (.t 58), [0, 1, 2, 3, 4, 5, 6, 7, 8, 9, 10, 11, 12, 13, 14, 15, 16, 17, 18, 19, 20, 21, 22, 23, 24, 25, 26, 27, 28, 29, 30, 31, 32, 33, 34, 35, 36, 37, 38, 39, 40, 41, 42, 43, 44, 45, 46, 47, 50], (.new [])⟩,
⟨(some 60), (some (55, false)), .beq true (.t 57) (.t 59), [0, 1, 2, 3, 4, 5, 6, 7, 8, 9, 10, 11, 12, 13, 14, 15, 16, 17, 18, 19, 20, 21, 22, 23, 24, 25, 26, 27, 28, 29, 30, 31, 32, 33, 34, 35, 36, 37, 38, 39, 40, 41, 42, 43, 44, 45, 46, 47, 48, 49, 50, 51], (.new [])⟩,
⟨(some 61), none, .pick (.t 55) (kB true) (.t 60), [0, 1, 2, 3, 4, 5, 6, 7, 8, 9, 10, 11, 12, 13, 14, 15, 16, 17, 18, 19, 20, 21, 22, 23, 24, 25, 26, 27, 28, 29, 30, 31, 32, 33, 34, 35, 36, 37, 38, 39, 40, 41, 42, 43, 44, 45, 46, 47, 48, 49, 50, 51, 52], (.lone [])⟩,
sd 62 (.mv (.t 61)) [0, 1, 2, 3, 4, 5, 6, 7, 8, 9, 10, 11, 12, 13, 14, 15, 16, 17, 18, 19, 20, 21, 22, 23, 24, 25, 26, 27, 28, 29, 30, 31, 32, 33, 34, 35, 36, 37, 38, 39, 40, 41, 42, 43, 44, 45, 46, 47, 48, 49, 50, 51, 52, 53],
⟨(some 63), (some (62, false)), .fieldA 8 (.t 2), [0, 1, 2, 3, 4, 5, 6, 7, 8, 9, 10, 11, 12, 13, 14, 15, 16, 17, 18, 19, 20, 21, 22, 23, 24, 25, 26, 27, 28, 29, 30, 31, 32, 33, 34, 35, 36, 37, 38, 39, 40, 41, 42, 43, 44, 45, 46, 47, 48, 49, 50, 51, 52, 53, 54], (.new [])⟩,
⟨(some 64), (some (62, false)), .load none (.t 63), [0, 1, 2, 3, 4, 5, 6, 7, 8, 9, 10, 11, 12, 13, 14, 15, 16, 17, 18, 19, 20, 21, 22, 23, 24, 25, 26, 27, 28, 29, 30, 31, 32, 33, 34, 35, 36, 37, 38, 39, 40, 41, 42, 43, 44, 45, 46, 47, 48, 49, 50, 51, 52, 53, 54, 55], (.new [])⟩,
⟨(some 65), (some (62, false)), .fieldA 8 (.t 3), [0, 1, 2, 3, 4, 5, 6, 7, 8, 9, 10, 11, 12, 13, 14, 15, 16, 17, 18, 19, 20, 21, 22, 23, 24, 25, 26, 27, 28, 29, 30, 31, 32, 33, 34, 35, 36, 37, 38, 39, 40, 41, 42, 43, 44, 45, 46, 47, 48, 49, 50, 51, 52, 53, 54], (.new [])⟩,
⟨(some 66), (some (62, false)), .load none (.t 65), [0, 1, 2, 3, 4, 5, 6, 7, 8, 9, 10, 11, 12, 13, 14, 15, 16, 17, 18, 19, 20, 21, 22, 23, 24, 25, 26, 27, 28, 29, 30, 31, 32, 33, 34, 35, 36, 37, 38, 39, 40, 41, 42, 43, 44, 45, 46, 47, 48, 49, 50, 51, 52, 53, 54, 57], (.new [])⟩,
⟨(some 67), (some (62, false)), .bin .neq (.t 64) (.t 66), [0, 1, 2, 3, 4, 5, 6, 7, 8, 9, 10, 11, 12, 13, 14, 15, 16, 17, 18, 19, 20, 21, 22, 23, 24, 25, 26, 27, 28, 29, 30, 31, 32, 33, 34, 35, 36, 37, 38, 39, 40, 41, 42, 43, 44, 45, 46, 47, 48, 49, 50, 51, 52, 53, 54, 55, 56, 57, 58], (.new [])⟩,
⟨(some 68), none, .pick (.t 62) (kB true) (.t 67), [0, 1, 2, 3, 4, 5, 6, 7, 8, 9, 10, 11, 12, 13, 14, 15, 16, 17, 18, 19, 20, 21, 22, 23, 24, 25, 26, 27, 28, 29, 30, 31, 32, 33, 34, 35, 36, 37, 38, 39, 40, 41, 42, 43, 44, 45, 46, 47, 48, 49, 50, 51, 52, 53, 54, 55, 56, 57, 58, 59], (.lone [])⟩]))
 (.cond (.t 68)
 (.seq (.reg [sq 4 (.mv (kB false))])
 .ret)
 .skip))
 (.seq (.seq (.sem (.reg [sq 69 (.fieldA 9 (.t 2)),
sq 70 (.load none (.t 69)),
sq 71 (.len (.t 70)),
sq 72 (.fieldA 9 (.t 3)),
sq 73 (.load none (.t 72)),
sq 74 (.len (.t 73)),
sq 75 (.bin .neq (.t 71) (.t 74)),
sq 76 (.mv (.t 75)),
⟨(some 77), (some (76, false)), .fieldA 10 (.t 2), [], (.new [])⟩,
⟨(some 78), (some (76, false)), .load none (.t 77), [], (.new [])⟩,
⟨(some 79), (some (76, false)), .len (.t 78), [], (.new [])⟩,
⟨(some 80), (some (76, false)), .fieldA 10 (.t 3), [], (.new [])⟩,
⟨(some 81), (some (76, false)), .load none (.t 80), [], (.new [])⟩,
⟨(some 82), (some (76, false)), .len (.t 81), [], (.new [])⟩,
⟨(some 83), (some (76, false)), .bin .neq (.t 79) (.t 82), [], (.new [])⟩,
sq 84 (.pick (.t 76) (kB true) (.t 83)),
sq 85 (.mv (.t 84)),
⟨(some 86), (some (85, false)), .fieldA 12 (.t 2), [], (.new [])⟩,
⟨(some 87), (some (85, false)), .load none (.t 86), [], (.new [])⟩,
⟨(some 88), (some (85, false)), .len (.t 87), [], (.new [])⟩,
⟨(some 89), (some (85, false)), .fieldA 12 (.t 3), [], (.new [])⟩,
⟨(some 90), (some (85, false)), .load none (.t 89), [], (.new [])⟩,
⟨(some 91), (some (85, false)), .len (.t 90), [], (.new [])⟩,
⟨(some 92), (some (85, false)), .bin .neq (.t 88) (.t 91), [], (.new [])⟩,
sq 93 (.pick (.t 85) (kB true) (.t 92)),
sq 94 (.mv (.t 93)),
⟨(some 95), (some (94, false)), .fieldA 11 (.t 2), [], (.new [])⟩,
⟨(some 96), (some (94, false)), .load none (.t 95), [], (.new [])⟩,
⟨(some 97), (some (94, false)), .fieldA 11 (.t 3), [], (.new [])⟩,
⟨(some 98), (some (94, false)), .load none (.t 97), [], (.new [])⟩,
⟨(some 99), (some (94, false)), .call 78 [(.t 96), (.t 98)], [], (.new [])⟩,
⟨(some 100), (some (94, false)), .not (.t 99), [], (.new [])⟩,
sq 101 (.pick (.t 94) (kB true) (.t 100))]))
 (.cond (.t 101)
 (.seq (.reg [sq 4 (.mv (kB false))])
 .ret)
 .skip))
 (.seq (.seq (.reg [sq 5 (.mv (kI 0))])
 (.sem (.block 0 (.loop (.seq (.seq (.reg [sq 102 (.mv (.t 5)),
sq 103 (.fieldA 9 (.t 2)),
sq 104 (.load none (.t 103)),
sq 105 (.len (.t 104)),
sq 106 (.bin .lss (.t 102) (.t 105))])
 (.cond (.t 106)
 .skip
 (.exit 0)))
 (.seq (.block 1 (.seq (.regd [sq 109 (.fieldA 9 (.t 2)),
sd 110 (.load none (.t 109)) [0],
sq 111 (.mv (.t 5)),
sd 112 (.indexA 2 (.t 110) (.t 111)) [0, 1, 2],
sd 113 (.load (some 2) (.t 112)) [0, 1, 2, 3],
sq 114 (.fieldA 9 (.t 3)),
sd 115 (.load none (.t 114)) [5],
sq 116 (.mv (.t 5)),
sd 117 (.indexA 2 (.t 115) (.t 116)) [5, 6, 7],
sd 118 (.load (some 2) (.t 117)) [5, 6, 7, 8],
⟨(some 119), none, .eqs true [(0, 2), (1, 2)] (.t 113) (.t 118), [0, 1, 2, 3, 4, 5, 6, 7, 8, 9], (.lone [])⟩])
 (.cond (.t 119)
 (.seq (.reg [sq 4 (.mv (kB false))])
 .ret)
 .skip)))
 (.reg [sq 107 (.mv (.t 5)),
sq 108 (.bin .add (.t 107) (kI 1)),
sq 5 (.mv (.t 108))])))))))
 (.seq (.seq (.reg [sq 6 (.mv (kI 0))])
 (.sem (.block 2 (.loop (.seq (.seq (.reg [sq 120 (.mv (.t 6)),
sq 121 (.fieldA 10 (.t 2)),
sq 122 (.load none (.t 121)),
sq 123 (.len (.t 122)),
sq 124 (.bin .lss (.t 120) (.t 123))])
 (.cond (.t 124)
 .skip
 (.exit 2)))
 (.seq (.block 3 (.seq (.regd [sq 127 (.fieldA 10 (.t 2)),
sd 128 (.load none (.t 127)) [0],
sq 129 (.mv (.t 6)),
sd 130 (.indexA 5 (.t 128) (.t 129)) [0, 1, 2],
sd 131 (.load (some 5) (.t 130)) [0, 1, 2, 3],
sq 132 (.fieldA 10 (.t 3)),
sd 133 (.load none (.t 132)) [5],
sq 134 (.mv (.t 6)),
sd 135 (.indexA 5 (.t 133) (.t 134)) [5, 6, 7],
sd 136 (.load (some 5) (.t 135)) [5, 6, 7, 8],
⟨(some 137), none, .eqs true [(0, 2), (1, 2), (2, 0), (3, 1), (4, 1)] (.t 131) (.t 136), [0, 1, 2, 3, 4, 5, 6, 7, 8, 9], (.lone [])⟩])
 (.cond (.t 137)
 (.seq (.reg [sq 4 (.mv (kB false))])
 .ret)
 .skip)))
 (.reg [sq 125 (.mv (.t 6)),
sq 126 (.bin .add (.t 125) (kI 1)),
sq 6 (.mv (.t 126))])))))))
 (.seq (.seq (.reg [sq 7 (.mv (kI 0))])
 (.sem (.block 4 (.loop (.seq (.seq (.reg [sq 138 (.mv (.t 7)),
sq 139 (.fieldA 12 (.t 2)),
sq 140 (.load none (.t 139)),
sq 141 (.len (.t 140)),
sq 142 (.bin .lss (.t 138) (.t 141))])
 (.cond (.t 142)
 .skip
 (.exit 4)))
 (.seq (.block 5 (.seq (.sem (.regd [sq 145 (.fieldA 12 (.t 2)),
sd 146 (.load none (.t 145)) [0],
sq 147 (.mv (.t 7)),
sd 148 (.indexA 2 (.t 146) (.t 147)) [0, 1, 2],
sd 149 (.fieldA 0 (.t 148)) [0, 1, 2, 3],
sd 150 (.load none (.t 149)) [0, 1, 2, 3, 4],
sq 151 (.fieldA 12 (.t 3)),
sd 152 (.load none (.t 151)) [6],
sq 153 (.mv (.t 7)),
sd 154 (.indexA 2 (.t 152) (.t 153)) [6, 7, 8],
sd 155 (.fieldA 0 (.t 154)) [6, 7, 8, 9],
sd 156 (.load none (.t 155)) [6, 7, 8, 9, 10],
sd 157 (.bin .neq (.t 150) (.t 156)) [0, 1, 2, 3, 4, 5, 6, 7, 8, 9, 10, 11],
sd 158 (.mv (.t 157)) [0, 1, 2, 3, 4, 5, 6, 7, 8, 9, 10, 11, 12],
⟨(some 159), (some (158, false)), .fieldA 12 (.t 2), [0, 1, 2, 3, 4, 5, 6, 7, 8, 9, 10, 11, 12, 13], (.new [])⟩,
⟨(some 160), (some (158, false)), .load none (.t 159), [0, 1, 2, 3, 4, 5, 6, 7, 8, 9, 10, 11, 12, 13, 14], (.new [])⟩,
⟨(some 161), (some (158, false)), .mv (.t 7), [0, 1, 2, 3, 4, 5, 6, 7, 8, 9, 10, 11, 12, 13], (.new [])⟩,
⟨(some 162), (some (158, false)), .indexA 2 (.t 160) (.t 161), [0, 1, 2, 3, 4, 5, 6, 7, 8, 9, 10, 11, 12, 13, 14, 15, 16], (.new [])⟩,
⟨(some 163), (some (158, false)), .fieldA 1 (.t 162), [0, 1, 2, 3, 4, 5, 6, 7, 8, 9, 10, 11, 12, 13, 14, 15, 16, 17], (.new [])⟩,
⟨(some 164), (some (158, false)), .load none (.t 163), [0, 1, 2, 3, 4, 5, 6, 7, 8, 9, 10, 11, 12, 13, 14, 15, 16, 17, 18], (.new [])⟩,
⟨(some 165), (some (158, false)), .fieldA 12 (.t 3), [0, 1, 2, 3, 4, 5, 6, 7, 8, 9, 10, 11, 12, 13], (.new [])⟩,
⟨(some 166), (some (158, false)), .load none (.t 165), [0, 1, 2, 3, 4, 5, 6, 7, 8, 9, 10, 11, 12, 13, 20], (.new [])⟩,
⟨(some 167), (some (158, false)), .mv (.t 7), [0, 1, 2, 3, 4, 5, 6, 7, 8, 9, 10, 11, 12, 13], (.new [])⟩,
⟨(some 168), (some (158, false)), .indexA 2 (.t 166) (.t 167), [0, 1, 2, 3, 4, 5, 6, 7, 8, 9, 10, 11, 12, 13, 20, 21, 22], (.new [])⟩,
⟨(some 169), (some (158, false)), .fieldA 1 (.t 168), [0, 1, 2, 3, 4, 5, 6, 7, 8, 9, 10, 11, 12, 13, 20, 21, 22, 23], (.new [])⟩,
⟨(some 170), (some (158, false)), .load none (.t 169), [0, 1, 2, 3, 4, 5, 6, 7, 8, 9, 10, 11, 12, 13, 20, 21, 22, 23, 24], (.new [])⟩,
⟨(some 171), (some (158, false)), .call 78 [(.t 164), (.t 170)], [0, 1, 2, 3, 4, 5, 6, 7, 8, 9, 10, 11, 12, 13, 14, 15, 16, 17, 18, 19, 20, 21, 22, 23, 24, 25], (.lone [])⟩,
⟨(some 172), (some (158, false)), .not (.t 171), [0, 1, 2, 3, 4, 5, 6, 7, 8, 9, 10, 11, 12, 13, 14, 15, 16, 17, 18, 19, 20, 21, 22, 23, 24, 25, 26], (.new [])⟩,
⟨(some 173), none, .pick (.t 158) (kB true) (.t 172), [0, 1, 2, 3, 4, 5, 6, 7, 8, 9, 10, 11, 12, 13, 14, 15, 16, 17, 18, 19, 20, 21, 22, 23, 24, 25, 26, 27], (.lone [])⟩]))
 (.cond (.t 173)
 (.seq (.reg [sq 4 (.mv (kB false))])
 .ret)
 .skip)))
 (.reg [sq 143 (.mv (.t 7)),
sq 144 (.bin .add (.t 143) (kI 1)),
sq 7 (.mv (.t 144))])))))))
 (.seq (.reg [sq 4 (.mv (kB true))])
 .ret)))))))⟩
theorem a56_ok : afn Try.prog 56 = some a56.er := by kernel_rfl
theorem F56_ok {x0 : Meta} {x1 : Meta} {r : Bool} (h : F56 x0 x1 = some r) : CallD Try.prog 56 [.agg [dS x0.Kind, dS x0.Namespace, dS x0.Name, dI x0.Uid, dI x0.Version, dI x0.Generation, dI x0.Created, dB x0.Deleting, dI x0.DeleteAt, dM (x0.Labels.map eLabel), dM (x0.Owners.map eOwner), dM (x0.Finalizers.map eS), dM (x0.Managers.map eManager)], .agg [dS x1.Kind, dS x1.Namespace, dS x1.Name, dI x1.Uid, dI x1.Version, dI x1.Generation, dI x1.Created, dB x1.Deleting, dI x1.DeleteAt, dM (x1.Labels.map eLabel), dM (x1.Owners.map eOwner), dM (x1.Finalizers.map eS), dM (x1.Managers.map eManager)]] [] (tupV [.c (dB r)]) [] := by
 refine callS a56_ok (by simp [a56]) ?_
 rw [F56] at h
 simp only [a56, VW.down, Nat.reduceEqDiff, reduceCtorEq, Nat.reduceAdd, Nat.reduceLeDiff, Nat.reduceLT, Nat.reduceBEq, Nat.reduceSub, EE.down]
 obtain ⟨o1, ho, h⟩ := bi h
 refine cutS (fun s => s = ⟨[(2, .one (.c (.pt 0 0))), (3, .one (.c (.pt 1 0))), (68, .one (.c (dB o1)))], [some (.box [dS x0.Kind, dS x0.Namespace, dS x0.Name, dI x0.Uid, dI x0.Version, dI x0.Generation, dI x0.Created, dB x0.Deleting, dI x0.DeleteAt, dM (x0.Labels.map eLabel), dM (x0.Owners.map eOwner), dM (x0.Finalizers.map eS), dM (x0.Managers.map eManager)]), some (.box [dS x1.Kind, dS x1.Namespace, dS x1.Name, dI x1.Uid, dI x1.Version, dI x1.Generation, dI x1.Created, dB x1.Deleting, dI x1.DeleteAt, dM (x1.Labels.map eLabel), dM (x1.Owners.map eOwner), dM (x1.Finalizers.map eS), dM (x1.Managers.map eManager)])]⟩) ?_ ?_
 ·have h := ho
  clear ho
  refine ww ?_
  obtain ⟨t2, ht2, h⟩ := bi h
  refine cN [] (F54_ok ht2) trivial ?_
  refine ww ?_
  obtain ⟨t3, ht3, h⟩ := bi h
  refine cN [] (F54_ok ht3) trivial ?_
  refine ww ?_
  refine guardDh h (fun g4 h => ?_) (fun g4 h => ?_)
  ·refine ww ?_
   cases h
   exact eM [some 0, some 1] rfl
  ·refine ww ?_
   refine guardDh h (fun g5 h => ?_) (fun g5 h => ?_)
   ·refine ww ?_
    cases h
    exact eM [some 0, some 1] rfl
   ·refine ww ?_
    refine guardDh h (fun g6 h => ?_) (fun g6 h => ?_)
    ·refine ww ?_
     cases h
     exact eM [some 0, some 1] rfl
    ·refine ww ?_
     refine guardDh h (fun g7 h => ?_) (fun g7 h => ?_)
     ·refine ww ?_
      cases h
      exact eM [some 0, some 1] rfl
     ·refine ww ?_
      refine guardDh h (fun g8 h => ?_) (fun g8 h => ?_)
      ·refine ww ?_
       cases h
       exact eM [some 0, some 1] rfl
      ·refine ww ?_
       refine guardDh h (fun g9 h => ?_) (fun g9 h => ?_)
       ·refine ww ?_
        cases h
        exact eM [some 0, some 1] rfl
       ·refine ww ?_
        refine guardDh h (fun g10 h => ?_) (fun g10 h => ?_)
        ·refine ww ?_
         cases h
         exact eM [some 0, some 1] rfl
        ·refine ww ?_
         refine guardDBh h (fun g11 h => ?_) (fun g11 h => ?_)
         ·refine ww ?_
          cases h
          exact eM [some 0, some 1] rfl
         ·refine ww ?_
          cases h
          exact eM [some 0, some 1] rfl
 ·rintro _ rfl
  clear ho
  refine ww ?_
  refine condBh h (fun c12 h => ?_) (fun c12 h => ?_)
  ·refine ww ?_
   cases h
   exact eF []
  ·refine ww ?_
   obtain ⟨o13, ho, h⟩ := bi h
   refine cutS (fun s => s = ⟨[(2, .one (.c (.pt 0 0))), (3, .one (.c (.pt 1 0))), (101, .one (.c (dB o13)))], [some (.box [dS x0.Kind, dS x0.Namespace, dS x0.Name, dI x0.Uid, dI x0.Version, dI x0.Generation, dI x0.Created, dB x0.Deleting, dI x0.DeleteAt, dM (x0.Labels.map eLabel), dM (x0.Owners.map eOwner), dM (x0.Finalizers.map eS), dM (x0.Managers.map eManager)]), some (.box [dS x1.Kind, dS x1.Namespace, dS x1.Name, dI x1.Uid, dI x1.Version, dI x1.Generation, dI x1.Created, dB x1.Deleting, dI x1.DeleteAt, dM (x1.Labels.map eLabel), dM (x1.Owners.map eOwner), dM (x1.Finalizers.map eS), dM (x1.Managers.map eManager)])]⟩) ?_ ?_
   ·have h := ho
    clear ho
    refine ww ?_
    refine guardSh h (fun g14 h => ?_) (fun g14 h => ?_)
    ·refine ww ?_
     cases h
     exact eM [some 0, some 1] rfl
    ·refine ww ?_
     refine guardSh h (fun g15 h => ?_) (fun g15 h => ?_)
     ·refine ww ?_
      cases h
      exact eM [some 0, some 1] rfl
     ·refine ww ?_
      refine guardSh h (fun g16 h => ?_) (fun g16 h => ?_)
      ·refine ww ?_
       cases h
       exact eM [some 0, some 1] rfl
      ·refine ww ?_
       obtain ⟨t17, ht17, h⟩ := bi h
       refine cN [] (F78_ok ht17) trivial ?_
       refine ww ?_
       cases h
       exact eM [some 0, some 1] rfl
   ·rintro _ rfl
    clear ho
    refine ww ?_
    refine condBh h (fun c18 h => ?_) (fun c18 h => ?_)
    ·refine ww ?_
     cases h
     exact eF []
    ·refine ww ?_
     obtain ⟨o19, ho, h⟩ := bi h
     refine cutS (fun s => ∃ po19, o19 = Sum.inr po19 ∧ s = ⟨[(2, .one (.c (.pt 0 0))), (3, .one (.c (.pt 1 0)))], [some (.box [dS x0.Kind, dS x0.Namespace, dS x0.Name, dI x0.Uid, dI x0.Version, dI x0.Generation, dI x0.Created, dB x0.Deleting, dI x0.DeleteAt, dM (x0.Labels.map eLabel), dM (x0.Owners.map eOwner), dM (x0.Finalizers.map eS), dM (x0.Managers.map eManager)]), some (.box [dS x1.Kind, dS x1.Namespace, dS x1.Name, dI x1.Uid, dI x1.Version, dI x1.Generation, dI x1.Created, dB x1.Deleting, dI x1.DeleteAt, dM (x1.Labels.map eLabel), dM (x1.Owners.map eOwner), dM (x1.Finalizers.map eS), dM (x1.Managers.map eManager)])]⟩) ?_ ?_
     ·have h0o19 := h
      have h := ho
      clear ho
      obtain ⟨_, hk, h⟩ := bi h
      have hk := ck_some hk
      refine ww ?_
      refine bL (fun j s => ∃ (o19_0 : Nat), (o19_0 ≤ x0.Labels.length ∧ j = x0.Labels.length - o19_0) ∧ s = ⟨[(2, .one (.c (.pt 0 0))), (3, .one (.c (.pt 1 0))), (5, .one (.c (dI ((o19_0 : Int)))))], [some (.box [dS x0.Kind, dS x0.Namespace, dS x0.Name, dI x0.Uid, dI x0.Version, dI x0.Generation, dI x0.Created, dB x0.Deleting, dI x0.DeleteAt, dM (x0.Labels.map eLabel), dM (x0.Owners.map eOwner), dM (x0.Finalizers.map eS), dM (x0.Managers.map eManager)]), some (.box [dS x1.Kind, dS x1.Namespace, dS x1.Name, dI x1.Uid, dI x1.Version, dI x1.Generation, dI x1.Created, dB x1.Deleting, dI x1.DeleteAt, dM (x1.Labels.map eLabel), dM (x1.Owners.map eOwner), dM (x1.Finalizers.map eS), dM (x1.Managers.map eManager)])]⟩ ∧ F56_l19 x1 (x0.Labels.drop o19_0) o19_0 = some o19) (x0.Labels.length - 0) [some 0, some 1] ⟨0, ⟨hk.1, rfl⟩, rfl, h⟩ ?_
      rintro _ _ ⟨o19_0, ⟨hi, rfl⟩, rfl, h⟩
      refine ww ?_
      refine condS (fun c20 => ?_) (fun c20 => ?_)
      ·obtain ⟨xo19, hxo19, hd⟩ := countY (show (o19_0 : Int) < (x0.Labels.length : Int) from c20)
       rw [hd, F56_l19] at h
       refine ww ?_
       refine t_idxF (enc := eLabel) (xs := x0.Labels) rfl rfl hxo19 rfl ?_
       refine ww ?_
       obtain ⟨y21, hy21, h⟩ := bi h
       refine t_idxF (enc := eLabel) (xs := x1.Labels) rfl rfl hy21 rfl ?_
       refine ww ?_
       refine condSh h (fun c22 h => ?_) (fun c22 h => ?_)
       ·refine ww ?_
        obtain ⟨fh0o19, hfh0o19, rfl⟩ := Option.map_eq_some_iff.1 h
        have h := hfh0o19.trans h0o19
        cases h
        exact eF []
       ·refine ww ?_
        rw [wrapN (by omega)]
        exact eL' (x0.Labels.length - (o19_0 + 1)) [some 0, some 1] ⟨o19_0 + 1, ⟨by omega, rfl⟩, rfl, h⟩ (by omega)
      ·rw [countN (show ¬ ((o19_0 : Int) < (x0.Labels.length : Int)) from c20), F56_l19] at h
       refine ww ?_
       cases h
       exact eM [some 0, some 1] ⟨_, rfl, rfl⟩
     ·rintro _ ⟨po19, rfl, rfl⟩
      clear ho
      dsimp only at h
      refine ww ?_
      obtain ⟨o24, ho, h⟩ := bi h
      refine cutS (fun s => ∃ po24, o24 = Sum.inr po24 ∧ s = ⟨[(2, .one (.c (.pt 0 0))), (3, .one (.c (.pt 1 0)))], [some (.box [dS x0.Kind, dS x0.Namespace, dS x0.Name, dI x0.Uid, dI x0.Version, dI x0.Generation, dI x0.Created, dB x0.Deleting, dI x0.DeleteAt, dM (x0.Labels.map eLabel), dM (x0.Owners.map eOwner), dM (x0.Finalizers.map eS), dM (x0.Managers.map eManager)]), some (.box [dS x1.Kind, dS x1.Namespace, dS x1.Name, dI x1.Uid, dI x1.Version, dI x1.Generation, dI x1.Created, dB x1.Deleting, dI x1.DeleteAt, dM (x1.Labels.map eLabel), dM (x1.Owners.map eOwner), dM (x1.Finalizers.map eS), dM (x1.Managers.map eManager)])]⟩) ?_ ?_
      ·have h0o24 := h
       have h := ho
       clear ho
       obtain ⟨_, hk, h⟩ := bi h
       have hk := ck_some hk
       refine ww ?_
       refine bL (fun j s => ∃ (o24_0 : Nat), (o24_0 ≤ x0.Owners.length ∧ j = x0.Owners.length - o24_0) ∧ s = ⟨[(2, .one (.c (.pt 0 0))), (3, .one (.c (.pt 1 0))), (6, .one (.c (dI ((o24_0 : Int)))))], [some (.box [dS x0.Kind, dS x0.Namespace, dS x0.Name, dI x0.Uid, dI x0.Version, dI x0.Generation, dI x0.Created, dB x0.Deleting, dI x0.DeleteAt, dM (x0.Labels.map eLabel), dM (x0.Owners.map eOwner), dM (x0.Finalizers.map eS), dM (x0.Managers.map eManager)]), some (.box [dS x1.Kind, dS x1.Namespace, dS x1.Name, dI x1.Uid, dI x1.Version, dI x1.Generation, dI x1.Created, dB x1.Deleting, dI x1.DeleteAt, dM (x1.Labels.map eLabel), dM (x1.Owners.map eOwner), dM (x1.Finalizers.map eS), dM (x1.Managers.map eManager)])]⟩ ∧ F56_l24 x1 (x0.Owners.drop o24_0) o24_0 = some o24) (x0.Owners.length - 0) [some 0, some 1] ⟨0, ⟨hk.1, rfl⟩, rfl, h⟩ ?_
       rintro _ _ ⟨o24_0, ⟨hi, rfl⟩, rfl, h⟩
       refine ww ?_
       refine condS (fun c25 => ?_) (fun c25 => ?_)
       ·obtain ⟨xo24, hxo24, hd⟩ := countY (show (o24_0 : Int) < (x0.Owners.length : Int) from c25)
        rw [hd, F56_l24] at h
        refine ww ?_
        refine t_idxF (enc := eOwner) (xs := x0.Owners) rfl rfl hxo24 rfl ?_
        refine ww ?_
        obtain ⟨y26, hy26, h⟩ := bi h
        refine t_idxF (enc := eOwner) (xs := x1.Owners) rfl rfl hy26 rfl ?_
        refine ww ?_
        refine condBh h (fun c27 h => ?_) (fun c27 h => ?_)
        ·refine ww ?_
         obtain ⟨fh0o24, hfh0o24, rfl⟩ := Option.map_eq_some_iff.1 h
         have h := hfh0o24.trans h0o24
         cases h
         exact eF []
        ·refine ww ?_
         rw [wrapN (by omega)]
         exact eL' (x0.Owners.length - (o24_0 + 1)) [some 0, some 1] ⟨o24_0 + 1, ⟨by omega, rfl⟩, rfl, h⟩ (by omega)
       ·rw [countN (show ¬ ((o24_0 : Int) < (x0.Owners.length : Int)) from c25), F56_l24] at h
        refine ww ?_
        cases h
        exact eM [some 0, some 1] ⟨_, rfl, rfl⟩
      ·rintro _ ⟨po24, rfl, rfl⟩
       clear ho
       dsimp only at h
       refine ww ?_
       obtain ⟨o29, ho, h⟩ := bi h
       refine cutS (fun s => ∃ po29, o29 = Sum.inr po29 ∧ s = ⟨[], []⟩) ?_ ?_
       ·have h0o29 := h
        have h := ho
        clear ho
        obtain ⟨_, hk, h⟩ := bi h
        have hk := ck_some hk
        refine ww ?_
        refine bL (fun j s => ∃ (o29_0 : Nat), (o29_0 ≤ x0.Managers.length ∧ j = x0.Managers.length - o29_0) ∧ s = ⟨[(2, .one (.c (.pt 0 0))), (3, .one (.c (.pt 1 0))), (7, .one (.c (dI ((o29_0 : Int)))))], [some (.box [dS x0.Kind, dS x0.Namespace, dS x0.Name, dI x0.Uid, dI x0.Version, dI x0.Generation, dI x0.Created, dB x0.Deleting, dI x0.DeleteAt, dM (x0.Labels.map eLabel), dM (x0.Owners.map eOwner), dM (x0.Finalizers.map eS), dM (x0.Managers.map eManager)]), some (.box [dS x1.Kind, dS x1.Namespace, dS x1.Name, dI x1.Uid, dI x1.Version, dI x1.Generation, dI x1.Created, dB x1.Deleting, dI x1.DeleteAt, dM (x1.Labels.map eLabel), dM (x1.Owners.map eOwner), dM (x1.Finalizers.map eS), dM (x1.Managers.map eManager)])]⟩ ∧ F56_l29 x1 (x0.Managers.drop o29_0) o29_0 = some o29) (x0.Managers.length - 0) [some 0, some 1] ⟨0, ⟨hk.1, rfl⟩, rfl, h⟩ ?_
        rintro _ _ ⟨o29_0, ⟨hi, rfl⟩, rfl, h⟩
        refine ww ?_
        refine condS (fun c30 => ?_) (fun c30 => ?_)
        ·obtain ⟨xo29, hxo29, hd⟩ := countY (show (o29_0 : Int) < (x0.Managers.length : Int) from c30)
         rw [hd, F56_l29] at h
         refine ww ?_
         obtain ⟨o31, ho, h⟩ := bi h
         refine cutS (fun s => s = ⟨[(2, .one (.c (.pt 0 0))), (3, .one (.c (.pt 1 0))), (7, .one (.c (dI ((o29_0 : Int))))), (173, .one (.c (dB o31)))], [some (.box [dS x0.Kind, dS x0.Namespace, dS x0.Name, dI x0.Uid, dI x0.Version, dI x0.Generation, dI x0.Created, dB x0.Deleting, dI x0.DeleteAt, dM (x0.Labels.map eLabel), dM (x0.Owners.map eOwner), dM (x0.Finalizers.map eS), dM (x0.Managers.map eManager)]), some (.box [dS x1.Kind, dS x1.Namespace, dS x1.Name, dI x1.Uid, dI x1.Version, dI x1.Generation, dI x1.Created, dB x1.Deleting, dI x1.DeleteAt, dM (x1.Labels.map eLabel), dM (x1.Owners.map eOwner), dM (x1.Finalizers.map eS), dM (x1.Managers.map eManager)])]⟩) ?_ ?_
         ·have h := ho
          clear ho
          refine ww ?_
          refine t_idxF (enc := eManager) (xs := x0.Managers) rfl rfl hxo29 rfl ?_
          refine ww ?_
          obtain ⟨y32, hy32, h⟩ := bi h
          refine t_idxF (enc := eManager) (xs := x1.Managers) rfl rfl hy32 rfl ?_
          refine ww ?_
          refine guardDh h (fun g33 h => ?_) (fun g33 h => ?_)
          ·refine ww ?_
           cases h
           exact eM [some 0, some 1] rfl
          ·refine ww ?_
           refine t_idxF (enc := eManager) (xs := x0.Managers) rfl rfl hxo29 rfl ?_
           refine ww ?_
           refine t_idxF (enc := eManager) (xs := x1.Managers) rfl rfl hy32 rfl ?_
           refine ww ?_
           obtain ⟨t34, ht34, h⟩ := bi h
           refine cN [] (F78_ok ht34) trivial ?_
           refine ww ?_
           cases h
           exact eM [some 0, some 1] rfl
         ·rintro _ rfl
          clear ho
          refine ww ?_
          refine condBh h (fun c35 h => ?_) (fun c35 h => ?_)
          ·refine ww ?_
           obtain ⟨fh0o29, hfh0o29, rfl⟩ := Option.map_eq_some_iff.1 h
           have h := hfh0o29.trans h0o29
           cases h
           exact eF []
          ·refine ww ?_
           rw [wrapN (by omega)]
           exact eL' (x0.Managers.length - (o29_0 + 1)) [some 0, some 1] ⟨o29_0 + 1, ⟨by omega, rfl⟩, rfl, h⟩ (by omega)
        ·rw [countN (show ¬ ((o29_0 : Int) < (x0.Managers.length : Int)) from c30), F56_l29] at h
         refine ww ?_
         cases h
         exact eM [] ⟨_, rfl, rfl⟩
       ·rintro _ ⟨po29, rfl, rfl⟩
        clear ho
        dsimp only at h
        refine ww ?_
        cases h
        exact eF []

/- orchestrator/orchestratorref04.order -/
def F100 (x0 : Bool) (x1 : Bool) : Option (Int) := (if x0 = true then some ((-1)) else (if x1 = true then some 1 else some 0))
def a100 : AFn := ⟨7, [(.tmp 4)],
 (.seq (.reg [sq 4 (.mv (kI 0))])
 (.seq (.seq (.reg [sq 5 (.mv (.t 0))])
 (.cond (.t 5)
 (.seq (.reg [sq 4 (.mv (kI (-1)))])
 .ret)
 .skip))
 (.seq (.seq (.reg [sq 6 (.mv (.t 1))])
 (.cond (.t 6)
 (.seq (.reg [sq 4 (.mv (kI 1))])
 .ret)
 .skip))
 (.seq (.reg [sq 4 (.mv (kI 0))])
 .ret))))⟩
theorem a100_ok : afn Try.prog 100 = some a100.er := by kernel_rfl
theorem F100_ok {x0 : Bool} {x1 : Bool} {r : Int} (h : F100 x0 x1 = some r) : CallD Try.prog 100 [.c (dB x0), .c (dB x1)] [] (tupV [.c (dI r)]) [] := by
 refine callS a100_ok (by simp [a100]) ?_
 rw [F100] at h
 simp only [a100, VW.down, Nat.reduceEqDiff, reduceCtorEq, Nat.reduceAdd, Nat.reduceLeDiff, Nat.reduceLT, Nat.reduceBEq, Nat.reduceSub, EE.down]
 refine condBh h (fun c1 h => ?_) (fun c1 h => ?_)
 ·refine ww ?_
  cases h
  exact eF []
 ·refine ww ?_
  refine condBh h (fun c2 h => ?_) (fun c2 h => ?_)
  ·refine ww ?_
   cases h
   exact eF []
  ·refine ww ?_
   cases h
   exact eF []

/- orchestrator/orchestratorref04.Compare -/
def F79_l8 (rc76 : TValue → TValue → Option (Int)) (x0 : TValue) (x1 : TValue) : Nat → Int → Int → Option (Int)
  | 0, _, _ => none
  | k + 1, o8_0, o8_1 => (((if o8_1 < (x0.List_.length : Int) then (if o8_1 < (x1.List_.length : Int) then some (decide (o8_0 = 0)) else some false) else some false)).bind fun o9 => (if o9 = true then (rdI x0.List_ o8_1).bind fun y13 => (rdI x1.List_ o8_1).bind fun y14 => (rc76 y13 y14).bind fun t15 => F79_l8 rc76 x0 x1 k t15 ((IntKind.i64.wrap (o8_1 + 1))) else some o8_0))
def F79_l19 (rc76 : TValue → TValue → Option (Int)) (x0 : TValue) (x1 : TValue) : Nat → Int → Int → Option (Int)
  | 0, _, _ => none
  | k + 1, o19_0, o19_1 => (((if o19_1 < (x0.Fields.length : Int) then (if o19_1 < (x1.Fields.length : Int) then some (decide (o19_0 = 0)) else some false) else some false)).bind fun o20 => (if o20 = true then (((rdI x0.Fields o19_1).bind fun y25 => (rdI x1.Fields o19_1).bind fun y26 => (F100 (Op.bytesLess y25.Name.toList y26.Name.toList) (nb (Op.bytesLess y25.Name.toList y26.Name.toList || decide (y25.Name = y26.Name)))).bind fun t27 => (if t27 = 0 then (rc76 y25.V y26.V).bind fun t29 => some t29 else some t27)).bind fun o24 => F79_l19 rc76 x0 x1 k o24 ((IntKind.i64.wrap (o19_1 + 1)))) else some o19_0))
def F79 (rc76 : TValue → TValue → Option (Int)) (x0 : TValue) (x1 : TValue) : Option (Int) := (F100 (decide (x0.Kind < x1.Kind)) (decide (x1.Kind < x0.Kind))).bind fun t1 => (((if t1 = 0 then (F100 (decide (x0.N < x1.N)) (decide (x1.N < x0.N))).bind fun t4 => some t4 else some t1)).bind fun o2 => (((if o2 = 0 then (F100 (Op.bytesLess x0.S.toList x1.S.toList) (nb (Op.bytesLess x0.S.toList x1.S.toList || decide (x0.S = x1.S)))).bind fun t7 => some t7 else some o2)).bind fun o5 => ((F79_l8 rc76 x0 x1 1099511627776 o5 0).bind fun o8 => (((if o8 = 0 then (F100 (decide ((x0.List_.length : Int) < (x1.List_.length : Int))) (decide ((x1.List_.length : Int) < (x0.List_.length : Int)))).bind fun t18 => some t18 else some o8)).bind fun o16 => ((F79_l19 rc76 x0 x1 1099511627776 o16 0).bind fun o19 => (if o19 = 0 then (F100 (decide ((x0.Fields.length : Int) < (x1.Fields.length : Int))) (decide ((x1.Fields.length : Int) < (x0.Fields.length : Int)))).bind fun t31 => some t31 else some o19))))))
def a79 : AFn := ⟨169, [(.tmp 4)],
 (.seq (.reg [sq 2 (.box (.t 0)),
sq 3 (.box (.t 1)),
sq 4 (.mv (kI 0))])
 (.seq (.reg [sq 8 (.fieldA 0 (.t 2)),
sq 9 (.load none (.t 8)),
sq 10 (.fieldA 0 (.t 3)),
sq 11 (.load none (.t 10)),
sq 12 (.bin .lss (.t 9) (.t 11)),
sq 13 (.fieldA 0 (.t 2)),
sq 14 (.load none (.t 13)),
sq 15 (.fieldA 0 (.t 3)),
sq 16 (.load none (.t 15)),
sq 17 (.bin .gtr (.t 14) (.t 16)),
sq 18 (.call 100 [(.t 12), (.t 17)]),
sq 5 (.mv (.t 18))])
 (.seq (.sem (.seq (.reg [sq 19 (.mv (.t 5)),
sq 20 (.bin .eql (.t 19) (kI 0))])
 (.cond (.t 20)
 (.reg [sq 21 (.fieldA 1 (.t 2)),
sq 22 (.load none (.t 21)),
sq 23 (.fieldA 1 (.t 3)),
sq 24 (.load none (.t 23)),
sq 25 (.bin .lss (.t 22) (.t 24)),
sq 26 (.fieldA 1 (.t 2)),
sq 27 (.load none (.t 26)),
sq 28 (.fieldA 1 (.t 3)),
sq 29 (.load none (.t 28)),
sq 30 (.bin .gtr (.t 27) (.t 29)),
sq 31 (.call 100 [(.t 25), (.t 30)]),
sq 5 (.mv (.t 31))])
 .skip)))
 (.seq (.sem (.seq (.reg [sq 32 (.mv (.t 5)),
sq 33 (.bin .eql (.t 32) (kI 0))])
 (.cond (.t 33)
 (.reg [sq 34 (.fieldA 2 (.t 2)),
sq 35 (.load none (.t 34)),
sq 36 (.fieldA 2 (.t 3)),
sq 37 (.load none (.t 36)),
sq 38 (.bin .lss (.t 35) (.t 37)),
sq 39 (.fieldA 2 (.t 2)),
sq 40 (.load none (.t 39)),
sq 41 (.fieldA 2 (.t 3)),
sq 42 (.load none (.t 41)),
sq 43 (.bin .gtr (.t 40) (.t 42)),
sq 44 (.call 100 [(.t 38), (.t 43)]),
sq 5 (.mv (.t 44))])
 .skip)))
 (.seq (.seq (.reg [sq 6 (.mv (kI 0))])
 (.sem (.block 0 (.loop (.seq (.seq (.sem (.reg [sq 45 (.mv (.t 6)),
sq 46 (.fieldA 3 (.t 2)),
sq 47 (.load none (.t 46)),
sq 48 (.len (.t 47)),
sq 49 (.bin .lss (.t 45) (.t 48)),
sq 50 (.mv (.t 49)),
⟨(some 51), (some (50, true)), .mv (.t 6), [], (.new [])⟩,
⟨(some 52), (some (50, true)), .fieldA 3 (.t 3), [], (.new [])⟩,
⟨(some 53), (some (50, true)), .load none (.t 52), [], (.new [])⟩,
⟨(some 54), (some (50, true)), .len (.t 53), [], (.new [])⟩,
⟨(some 55), (some (50, true)), .bin .lss (.t 51) (.t 54), [], (.new [])⟩,
sq 56 (.pick (.t 50) (.t 55) (kB false)),
sq 57 (.mv (.t 56)),
⟨(some 58), (some (57, true)), .mv (.t 5), [], (.new [])⟩,
⟨(some 59), (some (57, true)), .bin .eql (.t 58) (kI 0), [], (.new [])⟩,
sq 60 (.pick (.t 57) (.t 59) (kB false))]))
 (.cond (.t 60)
 .skip
 (.exit 0)))
 (.seq (.block 1 (.regd [sq 63 (.fieldA 3 (.t 2)),
sd 64 (.load none (.t 63)) [0],
sq 65 (.mv (.t 6)),
sd 66 (.indexA 5 (.t 64) (.t 65)) [0, 1, 2],
sd 67 (.load (some 5) (.t 66)) [0, 1, 2, 3],
sq 68 (.fieldA 3 (.t 3)),
sd 69 (.load none (.t 68)) [5],
sq 70 (.mv (.t 6)),
sd 71 (.indexA 5 (.t 69) (.t 70)) [5, 6, 7],
sd 72 (.load (some 5) (.t 71)) [5, 6, 7, 8],
⟨(some 73), none, .call 79 [(.t 67), (.t 72)], [0, 1, 2, 3, 4, 5, 6, 7, 8, 9], (.lone [])⟩,
sd 5 (.mv (.t 73)) [0, 1, 2, 3, 4, 5, 6, 7, 8, 9, 10]]))
 (.reg [sq 61 (.mv (.t 6)),
sq 62 (.bin .add (.t 61) (kI 1)),
sq 6 (.mv (.t 62))])))))))
 (.seq (.sem (.seq (.reg [sq 74 (.mv (.t 5)),
sq 75 (.bin .eql (.t 74) (kI 0))])
 (.cond (.t 75)
 (.reg [sq 76 (.fieldA 3 (.t 2)),
sq 77 (.load none (.t 76)),
sq 78 (.len (.t 77)),
sq 79 (.fieldA 3 (.t 3)),
sq 80 (.load none (.t 79)),
sq 81 (.len (.t 80)),
sq 82 (.bin .lss (.t 78) (.t 81)),
sq 83 (.fieldA 3 (.t 2)),
sq 84 (.load none (.t 83)),
sq 85 (.len (.t 84)),
sq 86 (.fieldA 3 (.t 3)),
sq 87 (.load none (.t 86)),
sq 88 (.len (.t 87)),
sq 89 (.bin .gtr (.t 85) (.t 88)),
sq 90 (.call 100 [(.t 82), (.t 89)]),
sq 5 (.mv (.t 90))])
 .skip)))
 (.seq (.seq (.reg [sq 7 (.mv (kI 0))])
 (.sem (.block 2 (.loop (.seq (.seq (.sem (.reg [sq 91 (.mv (.t 7)),
sq 92 (.fieldA 4 (.t 2)),
sq 93 (.load none (.t 92)),
sq 94 (.len (.t 93)),
sq 95 (.bin .lss (.t 91) (.t 94)),
sq 96 (.mv (.t 95)),
⟨(some 97), (some (96, true)), .mv (.t 7), [], (.new [])⟩,
⟨(some 98), (some (96, true)), .fieldA 4 (.t 3), [], (.new [])⟩,
⟨(some 99), (some (96, true)), .load none (.t 98), [], (.new [])⟩,
⟨(some 100), (some (96, true)), .len (.t 99), [], (.new [])⟩,
⟨(some 101), (some (96, true)), .bin .lss (.t 97) (.t 100), [], (.new [])⟩,
sq 102 (.pick (.t 96) (.t 101) (kB false)),
sq 103 (.mv (.t 102)),
⟨(some 104), (some (103, true)), .mv (.t 5), [], (.new [])⟩,
⟨(some 105), (some (103, true)), .bin .eql (.t 104) (kI 0), [], (.new [])⟩,
sq 106 (.pick (.t 103) (.t 105) (kB false))]))
 (.cond (.t 106)
 .skip
 (.exit 2)))
 (.seq (.sem (.block 3 (.seq (.regd [sq 109 (.fieldA 4 (.t 2)),
sd 110 (.load none (.t 109)) [0],
sq 111 (.mv (.t 7)),
sd 112 (.indexA 6 (.t 110) (.t 111)) [0, 1, 2],
sd 113 (.fieldA 0 (.t 112)) [0, 1, 2, 3],
sd 114 (.load none (.t 113)) [0, 1, 2, 3, 4],
sq 115 (.fieldA 4 (.t 3)),
sd 116 (.load none (.t 115)) [6],
sq 117 (.mv (.t 7)),
sd 118 (.indexA 6 (.t 116) (.t 117)) [6, 7, 8],
sd 119 (.fieldA 0 (.t 118)) [6, 7, 8, 9],
sd 120 (.load none (.t 119)) [6, 7, 8, 9, 10],
sd 121 (.bin .lss (.t 114) (.t 120)) [0, 1, 2, 3, 4, 5, 6, 7, 8, 9, 10, 11],
sq 122 (.fieldA 4 (.t 2)),
sd 123 (.load none (.t 122)) [13],
sq 124 (.mv (.t 7)),
sd 125 (.indexA 6 (.t 123) (.t 124)) [13, 14, 15],
sd 126 (.fieldA 0 (.t 125)) [13, 14, 15, 16],
sd 127 (.load none (.t 126)) [13, 14, 15, 16, 17],
sq 128 (.fieldA 4 (.t 3)),
sd 129 (.load none (.t 128)) [19],
sq 130 (.mv (.t 7)),
sd 131 (.indexA 6 (.t 129) (.t 130)) [19, 20, 21],
sd 132 (.fieldA 0 (.t 131)) [19, 20, 21, 22],
sd 133 (.load none (.t 132)) [19, 20, 21, 22, 23],
sd 134 (.bin .gtr (.t 127) (.t 133)) [13, 14, 15, 16, 17, 18, 19, 20, 21, 22, 23, 24],
⟨(some 135), none, .call 100 [(.t 121), (.t 134)], [0, 1, 2, 3, 4, 5, 6, 7, 8, 9, 10, 11, 12, 13, 14, 15, 16, 17, 18, 19, 20, 21, 22, 23, 24, 25], (.lone [])⟩,
sd 5 (.mv (.t 135)) [0, 1, 2, 3, 4, 5, 6, 7, 8, 9, 10, 11, 12, 13, 14, 15, 16, 17, 18, 19, 20, 21, 22, 23, 24, 25, 26]])
 (.seq (.reg [sq 136 (.mv (.t 5)),
sq 137 (.bin .eql (.t 136) (kI 0))])
 (.cond (.t 137)
 (.regd [sq 138 (.fieldA 4 (.t 2)),
sd 139 (.load none (.t 138)) [0],
sq 140 (.mv (.t 7)),
sd 141 (.indexA 6 (.t 139) (.t 140)) [0, 1, 2],
sd 142 (.fieldA 1 (.t 141)) [0, 1, 2, 3],
sd 143 (.load (some 5) (.t 142)) [0, 1, 2, 3, 4],
sq 144 (.fieldA 4 (.t 3)),
sd 145 (.load none (.t 144)) [6],
sq 146 (.mv (.t 7)),
sd 147 (.indexA 6 (.t 145) (.t 146)) [6, 7, 8],
sd 148 (.fieldA 1 (.t 147)) [6, 7, 8, 9],
sd 149 (.load (some 5) (.t 148)) [6, 7, 8, 9, 10],
⟨(some 150), none, .call 79 [(.t 143), (.t 149)], [0, 1, 2, 3, 4, 5, 6, 7, 8, 9, 10, 11], (.lone [])⟩,
sd 5 (.mv (.t 150)) [0, 1, 2, 3, 4, 5, 6, 7, 8, 9, 10, 11, 12]])
 .skip)))))
 (.reg [sq 107 (.mv (.t 7)),
sq 108 (.bin .add (.t 107) (kI 1)),
sq 7 (.mv (.t 108))])))))))
 (.seq (.seq (.reg [sq 151 (.mv (.t 5)),
sq 152 (.bin .eql (.t 151) (kI 0))])
 (.cond (.t 152)
 (.reg [sq 153 (.fieldA 4 (.t 2)),
sq 154 (.load none (.t 153)),
sq 155 (.len (.t 154)),
sq 156 (.fieldA 4 (.t 3)),
sq 157 (.load none (.t 156)),
sq 158 (.len (.t 157)),
sq 159 (.bin .lss (.t 155) (.t 158)),
sq 160 (.fieldA 4 (.t 2)),
sq 161 (.load none (.t 160)),
sq 162 (.len (.t 161)),
sq 163 (.fieldA 4 (.t 3)),
sq 164 (.load none (.t 163)),
sq 165 (.len (.t 164)),
sq 166 (.bin .gtr (.t 162) (.t 165)),
sq 167 (.call 100 [(.t 159), (.t 166)]),
sq 5 (.mv (.t 167))])
 .skip))
 (.seq (.reg [sq 168 (.mv (.t 5)),
sq 4 (.mv (.t 168))])
 .ret)))))))))⟩
theorem a79_ok : afn Try.prog 79 = some a79.er := by kernel_rfl
theorem F79_ok {rc76 : TValue → TValue → Option (Int)} (ih76 : ∀ {x0 : TValue} {x1 : TValue} {r : Int} (h : rc76 x0 x1 = some r), CallD Try.prog 79 [.agg [dI x0.Kind, dI x0.N, dS x0.S, dM (x0.List_.map eTValue), dM (x0.Fields.map eTField)], .agg [dI x1.Kind, dI x1.N, dS x1.S, dM (x1.List_.map eTValue), dM (x1.Fields.map eTField)]] [] (tupV [.c (dI r)]) [])  {x0 : TValue} {x1 : TValue} {r : Int} (h : F79 rc76 x0 x1 = some r) : CallD Try.prog 79 [.agg [dI x0.Kind, dI x0.N, dS x0.S, dM (x0.List_.map eTValue), dM (x0.Fields.map eTField)], .agg [dI x1.Kind, dI x1.N, dS x1.S, dM (x1.List_.map eTValue), dM (x1.Fields.map eTField)]] [] (tupV [.c (dI r)]) [] := by
 refine callS a79_ok (by simp [a79]) ?_
 rw [F79] at h
 simp only [a79, VW.down, Nat.reduceEqDiff, reduceCtorEq, Nat.reduceAdd, Nat.reduceLeDiff, Nat.reduceLT, Nat.reduceBEq, Nat.reduceSub, EE.down]
 obtain ⟨t1, ht1, h⟩ := bi h
 refine cN [] (F100_ok ht1) trivial ?_
 refine ww ?_
 obtain ⟨o2, ho, h⟩ := bi h
 refine cutS (fun s => s = ⟨[(2, .one (.c (.pt 0 0))), (3, .one (.c (.pt 1 0))), (5, .one (.c (dI o2)))], [some (.box [dI x0.Kind, dI x0.N, dS x0.S, dM (x0.List_.map eTValue), dM (x0.Fields.map eTField)]), some (.box [dI x1.Kind, dI x1.N, dS x1.S, dM (x1.List_.map eTValue), dM (x1.Fields.map eTField)])]⟩) ?_ ?_
 ·have h := ho
  clear ho
  refine ww ?_
  refine condSh h (fun c3 h => ?_) (fun c3 h => ?_)
  ·refine ww ?_
   obtain ⟨t4, ht4, h⟩ := bi h
   refine cN [] (F100_ok ht4) trivial ?_
   refine ww ?_
   cases h
   exact eM [some 0, some 1] rfl
  ·refine ww ?_
   cases h
   exact eM [some 0, some 1] rfl
 ·rintro _ rfl
  clear ho
  refine ww ?_
  obtain ⟨o5, ho, h⟩ := bi h
  refine cutS (fun s => s = ⟨[(2, .one (.c (.pt 0 0))), (3, .one (.c (.pt 1 0))), (5, .one (.c (dI o5)))], [some (.box [dI x0.Kind, dI x0.N, dS x0.S, dM (x0.List_.map eTValue), dM (x0.Fields.map eTField)]), some (.box [dI x1.Kind, dI x1.N, dS x1.S, dM (x1.List_.map eTValue), dM (x1.Fields.map eTField)])]⟩) ?_ ?_
  ·have h := ho
   clear ho
   refine ww ?_
   refine condSh h (fun c6 h => ?_) (fun c6 h => ?_)
   ·refine ww ?_
    obtain ⟨t7, ht7, h⟩ := bi h
    refine cN [] (F100_ok ht7) trivial ?_
    refine ww ?_
    cases h
    exact eM [some 0, some 1] rfl
   ·refine ww ?_
    cases h
    exact eM [some 0, some 1] rfl
  ·rintro _ rfl
   clear ho
   refine ww ?_
   obtain ⟨o8, ho, h⟩ := bi h
   refine cutS (fun s => s = ⟨[(2, .one (.c (.pt 0 0))), (3, .one (.c (.pt 1 0))), (5, .one (.c (dI o8)))], [some (.box [dI x0.Kind, dI x0.N, dS x0.S, dM (x0.List_.map eTValue), dM (x0.Fields.map eTField)]), some (.box [dI x1.Kind, dI x1.N, dS x1.S, dM (x1.List_.map eTValue), dM (x1.Fields.map eTField)])]⟩) ?_ ?_
   ·have h := ho
    clear ho
    refine ww ?_
    refine bL (fun j s => ∃ (o8_0 : Int) (o8_1 : Int), s = ⟨[(2, .one (.c (.pt 0 0))), (3, .one (.c (.pt 1 0))), (5, .one (.c (dI o8_0))), (6, .one (.c (dI o8_1)))], [some (.box [dI x0.Kind, dI x0.N, dS x0.S, dM (x0.List_.map eTValue), dM (x0.Fields.map eTField)]), some (.box [dI x1.Kind, dI x1.N, dS x1.S, dM (x1.List_.map eTValue), dM (x1.Fields.map eTField)])]⟩ ∧ F79_l8 rc76 x0 x1 j o8_0 o8_1 = some o8) 1099511627776 [some 0, some 1] ⟨o5, 0, rfl, h⟩ ?_
    rintro j _ ⟨o8_0, o8_1, rfl, h⟩
    cases j with
    | zero => cases (show (none : Option _) = some _ from h)
    | succ j =>
     rw [F79_l8] at h
     refine ww ?_
     obtain ⟨o9, ho, h⟩ := bi h
     refine cutS (fun s => s = ⟨[(2, .one (.c (.pt 0 0))), (3, .one (.c (.pt 1 0))), (5, .one (.c (dI o8_0))), (6, .one (.c (dI o8_1))), (60, .one (.c (dB o9)))], [some (.box [dI x0.Kind, dI x0.N, dS x0.S, dM (x0.List_.map eTValue), dM (x0.Fields.map eTField)]), some (.box [dI x1.Kind, dI x1.N, dS x1.S, dM (x1.List_.map eTValue), dM (x1.Fields.map eTField)])]⟩) ?_ ?_
     ·have h := ho
      clear ho
      refine ww ?_
      refine guardSh h (fun g10 h => ?_) (fun g10 h => ?_)
      ·refine ww ?_
       refine guardSh h (fun g11 h => ?_) (fun g11 h => ?_)
       ·refine ww ?_
        cases h
        exact eM [some 0, some 1] rfl
       ·refine ww ?_
        cases h
        exact eM [some 0, some 1] rfl
      ·refine ww ?_
       cases h
       exact eM [some 0, some 1] rfl
     ·rintro _ rfl
      clear ho
      refine ww ?_
      refine condBh h (fun c12 h => ?_) (fun c12 h => ?_)
      ·refine ww ?_
       obtain ⟨y13, hy13, h⟩ := bi h
       refine t_idxF (enc := eTValue) (xs := x0.List_) rfl rfl hy13 (by rw [eTValue_u]; rfl) ?_
       refine ww ?_
       obtain ⟨y14, hy14, h⟩ := bi h
       refine t_idxF (enc := eTValue) (xs := x1.List_) rfl rfl hy14 (by rw [eTValue_u]; rfl) ?_
       refine ww ?_
       obtain ⟨t15, ht15, h⟩ := bi h
       refine cN [] (ih76 ht15) trivial ?_
       refine ww ?_
       exact eL' j [some 0, some 1] ⟨t15, (IntKind.i64.wrap (o8_1 + 1)), rfl, h⟩ (Nat.lt_succ_self _)
      ·refine ww ?_
       cases h
       exact eM [some 0, some 1] rfl
   ·rintro _ rfl
    clear ho
    refine ww ?_
    obtain ⟨o16, ho, h⟩ := bi h
    refine cutS (fun s => s = ⟨[(2, .one (.c (.pt 0 0))), (3, .one (.c (.pt 1 0))), (5, .one (.c (dI o16)))], [some (.box [dI x0.Kind, dI x0.N, dS x0.S, dM (x0.List_.map eTValue), dM (x0.Fields.map eTField)]), some (.box [dI x1.Kind, dI x1.N, dS x1.S, dM (x1.List_.map eTValue), dM (x1.Fields.map eTField)])]⟩) ?_ ?_
    ·have h := ho
     clear ho
     refine ww ?_
     refine condSh h (fun c17 h => ?_) (fun c17 h => ?_)
     ·refine ww ?_
      obtain ⟨t18, ht18, h⟩ := bi h
      refine cN [] (F100_ok ht18) trivial ?_
      refine ww ?_
      cases h
      exact eM [some 0, some 1] rfl
     ·refine ww ?_
      cases h
      exact eM [some 0, some 1] rfl
    ·rintro _ rfl
     clear ho
     refine ww ?_
     obtain ⟨o19, ho, h⟩ := bi h
     refine cutS (fun s => s = ⟨[(2, .one (.c (.pt 0 0))), (3, .one (.c (.pt 1 0))), (5, .one (.c (dI o19)))], [some (.box [dI x0.Kind, dI x0.N, dS x0.S, dM (x0.List_.map eTValue), dM (x0.Fields.map eTField)]), some (.box [dI x1.Kind, dI x1.N, dS x1.S, dM (x1.List_.map eTValue), dM (x1.Fields.map eTField)])]⟩) ?_ ?_
     ·have h := ho
      clear ho
      refine ww ?_
      refine bL (fun j s => ∃ (o19_0 : Int) (o19_1 : Int), s = ⟨[(2, .one (.c (.pt 0 0))), (3, .one (.c (.pt 1 0))), (5, .one (.c (dI o19_0))), (7, .one (.c (dI o19_1)))], [some (.box [dI x0.Kind, dI x0.N, dS x0.S, dM (x0.List_.map eTValue), dM (x0.Fields.map eTField)]), some (.box [dI x1.Kind, dI x1.N, dS x1.S, dM (x1.List_.map eTValue), dM (x1.Fields.map eTField)])]⟩ ∧ F79_l19 rc76 x0 x1 j o19_0 o19_1 = some o19) 1099511627776 [some 0, some 1] ⟨o16, 0, rfl, h⟩ ?_
      rintro j _ ⟨o19_0, o19_1, rfl, h⟩
      cases j with
      | zero => cases (show (none : Option _) = some _ from h)
      | succ j =>
       rw [F79_l19] at h
       refine ww ?_
       obtain ⟨o20, ho, h⟩ := bi h
       refine cutS (fun s => s = ⟨[(2, .one (.c (.pt 0 0))), (3, .one (.c (.pt 1 0))), (5, .one (.c (dI o19_0))), (7, .one (.c (dI o19_1))), (106, .one (.c (dB o20)))], [some (.box [dI x0.Kind, dI x0.N, dS x0.S, dM (x0.List_.map eTValue), dM (x0.Fields.map eTField)]), some (.box [dI x1.Kind, dI x1.N, dS x1.S, dM (x1.List_.map eTValue), dM (x1.Fields.map eTField)])]⟩) ?_ ?_
       ·have h := ho
        clear ho
        refine ww ?_
        refine guardSh h (fun g21 h => ?_) (fun g21 h => ?_)
        ·refine ww ?_
         refine guardSh h (fun g22 h => ?_) (fun g22 h => ?_)
         ·refine ww ?_
          cases h
          exact eM [some 0, some 1] rfl
         ·refine ww ?_
          cases h
          exact eM [some 0, some 1] rfl
        ·refine ww ?_
         cases h
         exact eM [some 0, some 1] rfl
       ·rintro _ rfl
        clear ho
        refine ww ?_
        refine condBh h (fun c23 h => ?_) (fun c23 h => ?_)
        ·refine ww ?_
         obtain ⟨o24, ho, h⟩ := bi h
         refine cutS (fun s => s = ⟨[(2, .one (.c (.pt 0 0))), (3, .one (.c (.pt 1 0))), (5, .one (.c (dI o24))), (7, .one (.c (dI o19_1)))], [some (.box [dI x0.Kind, dI x0.N, dS x0.S, dM (x0.List_.map eTValue), dM (x0.Fields.map eTField)]), some (.box [dI x1.Kind, dI x1.N, dS x1.S, dM (x1.List_.map eTValue), dM (x1.Fields.map eTField)])]⟩) ?_ ?_
         ·have h := ho
          clear ho
          refine ww ?_
          obtain ⟨y25, hy25, h⟩ := bi h
          refine t_idxF (enc := eTField) (xs := x0.Fields) rfl rfl hy25 (by rw [eTField_u]; rfl) ?_
          refine ww ?_
          obtain ⟨y26, hy26, h⟩ := bi h
          refine t_idxF (enc := eTField) (xs := x1.Fields) rfl rfl hy26 (by rw [eTField_u]; rfl) ?_
          refine ww ?_
          refine t_idxF (enc := eTField) (xs := x0.Fields) rfl rfl hy25 (by rw [eTField_u]; rfl) ?_
          refine ww ?_
          refine t_idxF (enc := eTField) (xs := x1.Fields) rfl rfl hy26 (by rw [eTField_u]; rfl) ?_
          refine ww ?_
          obtain ⟨t27, ht27, h⟩ := bi h
          refine cN [] (F100_ok ht27) trivial ?_
          refine ww ?_
          refine condSh h (fun c28 h => ?_) (fun c28 h => ?_)
          ·refine ww ?_
           refine t_idxF (enc := eTField) (xs := x0.Fields) rfl rfl hy25 (by rw [eTField_u]; rfl) ?_
           refine ww ?_
           refine t_idxF (enc := eTField) (xs := x1.Fields) rfl rfl hy26 (by rw [eTField_u]; rfl) ?_
           refine ww ?_
           obtain ⟨t29, ht29, h⟩ := bi h
           refine cN [] (ih76 ht29) trivial ?_
           refine ww ?_
           cases h
           exact eM [some 0, some 1] rfl
          ·refine ww ?_
           cases h
           exact eM [some 0, some 1] rfl
         ·rintro _ rfl
          clear ho
          refine ww ?_
          exact eL' j [some 0, some 1] ⟨o24, (IntKind.i64.wrap (o19_1 + 1)), rfl, h⟩ (Nat.lt_succ_self _)
        ·refine ww ?_
         cases h
         exact eM [some 0, some 1] rfl
     ·rintro _ rfl
      clear ho
      refine ww ?_
      refine condSh h (fun c30 h => ?_) (fun c30 h => ?_)
      ·refine ww ?_
       obtain ⟨t31, ht31, h⟩ := bi h
       refine cN [] (F100_ok ht31) trivial ?_
       refine ww ?_
       cases h
       exact eF []
      ·refine ww ?_
       cases h
       exact eF []
def F79k : Nat → TValue → TValue → Option (Int)
  | 0 => fun _ _ => none
  | k + 1 => F79 (F79k k)
theorem F79k_ok (k : Nat) {x0 : TValue} {x1 : TValue} {r : Int} (h : F79k k x0 x1 = some r) : CallD Try.prog 79 [.agg [dI x0.Kind, dI x0.N, dS x0.S, dM (x0.List_.map eTValue), dM (x0.Fields.map eTField)], .agg [dI x1.Kind, dI x1.N, dS x1.S, dM (x1.List_.map eTValue), dM (x1.Fields.map eTField)]] [] (tupV [.c (dI r)]) [] := by
  induction k generalizing x0 x1 r with
  | zero => cases (show (none : Option (Int)) = some _ from h)
  | succ k ih => exact F79_ok (fun h => ih h) h

/- orchestrator/orchestratorref04.Equal -/
def F57 (x0 : TValue) (x1 : TValue) : Option (Bool) := (F79k 1099511627776 x0 x1).bind fun t1 => some (decide (t1 = 0))
def a57 : AFn := ⟨9, [(.tmp 4)],
 (.seq (.reg [sq 2 (.box (.t 0)),
sq 3 (.box (.t 1)),
sq 4 (.mv (kB false))])
 (.seq (.reg [sq 5 (.load (some 5) (.t 2)),
sq 6 (.load (some 5) (.t 3)),
sq 7 (.call 79 [(.t 5), (.t 6)]),
sq 8 (.bin .eql (.t 7) (kI 0)),
sq 4 (.mv (.t 8))])
 .ret))⟩
theorem a57_ok : afn Try.prog 57 = some a57.er := by kernel_rfl
theorem F57_ok {x0 : TValue} {x1 : TValue} {r : Bool} (h : F57 x0 x1 = some r) : CallD Try.prog 57 [.agg [dI x0.Kind, dI x0.N, dS x0.S, dM (x0.List_.map eTValue), dM (x0.Fields.map eTField)], .agg [dI x1.Kind, dI x1.N, dS x1.S, dM (x1.List_.map eTValue), dM (x1.Fields.map eTField)]] [] (tupV [.c (dB r)]) [] := by
 refine callS a57_ok (by simp [a57]) ?_
 rw [F57] at h
 simp only [a57, VW.down, Nat.reduceEqDiff, reduceCtorEq, Nat.reduceAdd, Nat.reduceLeDiff, Nat.reduceLT, Nat.reduceBEq, Nat.reduceSub, EE.down]
 obtain ⟨t1, ht1, h⟩ := bi h
 refine cN [] (F79k_ok 1099511627776 ht1) trivial ?_
 refine ww ?_
 cases h
 exact eF []

/- orchestrator/orchestratorref13.Equal -/
def F30 (x0 : Object) (x1 : Object) : Option (Bool) := (((F56 x0.Meta x1.Meta).bind fun t2 => (if t2 = true then (F57 x0.Spec x1.Spec).bind fun t4 => (if t4 = true then (F57 x0.Status x1.Status).bind fun t6 => some t6 else some false) else some false)).bind fun o1 => some o1)
def a30 : AFn := ⟨24, [(.tmp 4)],
 (.seq (.reg [sq 2 (.box (.t 0)),
sq 3 (.box (.t 1)),
sq 4 (.mv (kB false))])
 (.seq (.sem (.reg [sq 5 (.fieldA 0 (.t 2)),
sq 6 (.load (some 13) (.t 5)),
sq 7 (.fieldA 0 (.t 3)),
sq 8 (.load (some 13) (.t 7)),
sq 9 (.call 56 [(.t 6), (.t 8)]),
sq 10 (.mv (.t 9)),
⟨(some 11), (some (10, true)), .fieldA 13 (.t 2), [], (.new [])⟩,
⟨(some 12), (some (10, true)), .load (some 5) (.t 11), [], (.new [])⟩,
⟨(some 13), (some (10, true)), .fieldA 13 (.t 3), [], (.new [])⟩,
⟨(some 14), (some (10, true)), .load (some 5) (.t 13), [], (.new [])⟩,
⟨(some 15), (some (10, true)), .call 57 [(.t 12), (.t 14)], [], (.new [])⟩,
sq 16 (.pick (.t 10) (.t 15) (kB false)),
sq 17 (.mv (.t 16)),
⟨(some 18), (some (17, true)), .fieldA 18 (.t 2), [], (.new [])⟩,
⟨(some 19), (some (17, true)), .load (some 5) (.t 18), [], (.new [])⟩,
⟨(some 20), (some (17, true)), .fieldA 18 (.t 3), [], (.new [])⟩,
⟨(some 21), (some (17, true)), .load (some 5) (.t 20), [], (.new [])⟩,
⟨(some 22), (some (17, true)), .call 57 [(.t 19), (.t 21)], [], (.new [])⟩,
sq 23 (.pick (.t 17) (.t 22) (kB false)),
sq 4 (.mv (.t 23))]))
 .ret))⟩
theorem a30_ok : afn Try.prog 30 = some a30.er := by kernel_rfl
theorem F30_ok {x0 : Object} {x1 : Object} {r : Bool} (h : F30 x0 x1 = some r) : CallD Try.prog 30 [.agg [dS x0.Meta.Kind, dS x0.Meta.Namespace, dS x0.Meta.Name, dI x0.Meta.Uid, dI x0.Meta.Version, dI x0.Meta.Generation, dI x0.Meta.Created, dB x0.Meta.Deleting, dI x0.Meta.DeleteAt, dM (x0.Meta.Labels.map eLabel), dM (x0.Meta.Owners.map eOwner), dM (x0.Meta.Finalizers.map eS), dM (x0.Meta.Managers.map eManager), dI x0.Spec.Kind, dI x0.Spec.N, dS x0.Spec.S, dM (x0.Spec.List_.map eTValue), dM (x0.Spec.Fields.map eTField), dI x0.Status.Kind, dI x0.Status.N, dS x0.Status.S, dM (x0.Status.List_.map eTValue), dM (x0.Status.Fields.map eTField)], .agg [dS x1.Meta.Kind, dS x1.Meta.Namespace, dS x1.Meta.Name, dI x1.Meta.Uid, dI x1.Meta.Version, dI x1.Meta.Generation, dI x1.Meta.Created, dB x1.Meta.Deleting, dI x1.Meta.DeleteAt, dM (x1.Meta.Labels.map eLabel), dM (x1.Meta.Owners.map eOwner), dM (x1.Meta.Finalizers.map eS), dM (x1.Meta.Managers.map eManager), dI x1.Spec.Kind, dI x1.Spec.N, dS x1.Spec.S, dM (x1.Spec.List_.map eTValue), dM (x1.Spec.Fields.map eTField), dI x1.Status.Kind, dI x1.Status.N, dS x1.Status.S, dM (x1.Status.List_.map eTValue), dM (x1.Status.Fields.map eTField)]] [] (tupV [.c (dB r)]) [] := by
 refine callS a30_ok (by simp [a30]) ?_
 rw [F30] at h
 simp only [a30, VW.down, Nat.reduceEqDiff, reduceCtorEq, Nat.reduceAdd, Nat.reduceLeDiff, Nat.reduceLT, Nat.reduceBEq, Nat.reduceSub, EE.down]
 obtain ⟨o1, ho, h⟩ := bi h
 refine cutS (fun s => s = ⟨[(4, .one (.c (dB o1)))], []⟩) ?_ ?_
 ·have h := ho
  clear ho
  refine ww ?_
  obtain ⟨t2, ht2, h⟩ := bi h
  refine cN [] (F56_ok ht2) trivial ?_
  refine ww ?_
  refine guardSBh h (fun g3 h => ?_) (fun g3 h => ?_)
  ·refine ww ?_
   obtain ⟨t4, ht4, h⟩ := bi h
   refine cN [] (F57_ok ht4) trivial ?_
   refine ww ?_
   refine guardSBh h (fun g5 h => ?_) (fun g5 h => ?_)
   ·refine ww ?_
    obtain ⟨t6, ht6, h⟩ := bi h
    refine cN [] (F57_ok ht6) trivial ?_
    refine ww ?_
    cases h
    exact eM [] rfl
   ·refine ww ?_
    cases h
    exact eM [] rfl
  ·refine ww ?_
   cases h
   exact eM [] rfl
 ·rintro _ rfl
  clear ho
  refine ww ?_
  cases h
  exact eF []

/- orchestrator/orchestratorref14.EqualLists -/
def F29_l1 (x0 : (List Object)) (x1 : (List Object)) : Nat → Int → Option ((Bool) ⊕ (Unit))
  | 0, _ => none
  | k + 1, o1_0 => (((if o1_0 < (x0.length : Int) then some (decide (o1_0 < (x1.length : Int))) else some false)).bind fun o2 => (if o2 = true then (rdI x0 o1_0).bind fun y5 => (rdI x1 o1_0).bind fun y6 => (F30 y5 y6).bind fun t7 => (if (nb t7) = true then (some false).map Sum.inl else F29_l1 x0 x1 k ((IntKind.i64.wrap (o1_0 + 1)))) else some (Sum.inr (()))))
def F29 (x0 : (List Object)) (x1 : (List Object)) : Option (Bool) := ((F29_l1 x0 x1 1099511627776 0 : Option ((Bool) ⊕ (Unit))).bind fun o1 => match o1 with | Sum.inl f => some f | Sum.inr po1 => some (decide ((x0.length : Int) = (x1.length : Int))))
def a29 : AFn := ⟨33, [(.tmp 4)],
 (.seq (.reg [sq 4 (.mv (kB false))])
 (.seq (.seq (.reg [sq 5 (.mv (kI 0))])
 (.sem (.block 0 (.loop (.seq (.seq (.sem (.reg [sq 6 (.mv (.t 5)),
sq 7 (.mv (.t 0)),
sq 8 (.len (.t 7)),
sq 9 (.bin .lss (.t 6) (.t 8)),
sq 10 (.mv (.t 9)),
⟨(some 11), (some (10, true)), .mv (.t 5), [], (.new [])⟩,
⟨(some 12), (some (10, true)), .mv (.t 1), [], (.new [])⟩,
⟨(some 13), (some (10, true)), .len (.t 12), [], (.new [])⟩,
⟨(some 14), (some (10, true)), .bin .lss (.t 11) (.t 13), [], (.new [])⟩,
⟨(some 15), none, .pick (.t 10) (.t 14) (kB false), [], (.lone [7, 12])⟩]))
 (.cond (.t 15)
 .skip
 (.exit 0)))
 (.seq (.block 1 (.seq (.regd [sq 18 (.mv (.t 0)),
sq 19 (.mv (.t 5)),
sd 20 (.indexA 23 (.t 18) (.t 19)) [0, 1],
sd 21 (.load (some 23) (.t 20)) [0, 1, 2],
sq 22 (.mv (.t 1)),
sq 23 (.mv (.t 5)),
sd 24 (.indexA 23 (.t 22) (.t 23)) [4, 5],
sd 25 (.load (some 23) (.t 24)) [4, 5, 6],
⟨(some 26), none, .call 30 [(.t 21), (.t 25)], [0, 1, 2, 3, 4, 5, 6, 7], (.lone [])⟩,
sd 27 (.not (.t 26)) [0, 1, 2, 3, 4, 5, 6, 7, 8]])
 (.cond (.t 27)
 (.seq (.reg [sq 4 (.mv (kB false))])
 .ret)
 .skip)))
 (.reg [sq 16 (.mv (.t 5)),
sq 17 (.bin .add (.t 16) (kI 1)),
sq 5 (.mv (.t 17))])))))))
 (.seq (.reg [sq 28 (.mv (.t 0)),
sq 29 (.len (.t 28)),
sq 30 (.mv (.t 1)),
sq 31 (.len (.t 30)),
sq 32 (.bin .eql (.t 29) (.t 31)),
sq 4 (.mv (.t 32))])
 .ret)))⟩
theorem a29_ok : afn Try.prog 29 = some a29.er := by kernel_rfl
theorem F29_ok {x0 : (List Object)} {x1 : (List Object)} {r : Bool} (h : F29 x0 x1 = some r) : CallD Try.prog 29 [.c (dM (x0.map eObject)), .c (dM (x1.map eObject))] [] (tupV [.c (dB r)]) [] := by
 refine callS a29_ok (by simp [a29]) ?_
 rw [F29] at h
 simp only [a29, VW.down, Nat.reduceEqDiff, reduceCtorEq, Nat.reduceAdd, Nat.reduceLeDiff, Nat.reduceLT, Nat.reduceBEq, Nat.reduceSub, EE.down]
 obtain ⟨o1, ho, h⟩ := bi h
 refine cutS (fun s => ∃ po1, o1 = Sum.inr po1 ∧ s = ⟨[(0, .one (.c (dM (x0.map eObject)))), (1, .one (.c (dM (x1.map eObject))))], []⟩) ?_ ?_
 ·have h0o1 := h
  have h := ho
  clear ho
  refine ww ?_
  refine bL (fun j s => ∃ (o1_0 : Int), s = ⟨[(0, .one (.c (dM (x0.map eObject)))), (1, .one (.c (dM (x1.map eObject)))), (5, .one (.c (dI o1_0)))], []⟩ ∧ F29_l1 x0 x1 j o1_0 = some o1) 1099511627776 [] ⟨0, rfl, h⟩ ?_
  rintro j _ ⟨o1_0, rfl, h⟩
  cases j with
  | zero => cases (show (none : Option _) = some _ from h)
  | succ j =>
   rw [F29_l1] at h
   refine ww ?_
   obtain ⟨o2, ho, h⟩ := bi h
   refine cutS (fun s => s = ⟨[(0, .one (.c (dM (x0.map eObject)))), (1, .one (.c (dM (x1.map eObject)))), (5, .one (.c (dI o1_0))), (15, .one (.c (dB o2)))], []⟩) ?_ ?_
   ·have h := ho
    clear ho
    refine ww ?_
    refine guardSh h (fun g3 h => ?_) (fun g3 h => ?_)
    ·refine ww ?_
     cases h
     exact eM [] rfl
    ·refine ww ?_
     cases h
     exact eM [] rfl
   ·rintro _ rfl
    clear ho
    refine ww ?_
    refine condBh h (fun c4 h => ?_) (fun c4 h => ?_)
    ·refine ww ?_
     obtain ⟨y5, hy5, h⟩ := bi h
     refine t_idxF (enc := eObject) (xs := x0) rfl rfl hy5 rfl ?_
     refine ww ?_
     obtain ⟨y6, hy6, h⟩ := bi h
     refine t_idxF (enc := eObject) (xs := x1) rfl rfl hy6 rfl ?_
     refine ww ?_
     obtain ⟨t7, ht7, h⟩ := bi h
     refine cN [] (F30_ok ht7) trivial ?_
     refine ww ?_
     refine condBh h (fun c8 h => ?_) (fun c8 h => ?_)
     ·refine ww ?_
      obtain ⟨fh0o1, hfh0o1, rfl⟩ := Option.map_eq_some_iff.1 h
      have h := hfh0o1.trans h0o1
      cases h
      exact eF []
     ·refine ww ?_
      exact eL' j [] ⟨(IntKind.i64.wrap (o1_0 + 1)), rfl, h⟩ (Nat.lt_succ_self _)
    ·refine ww ?_
     cases h
     exact eM [] ⟨_, rfl, rfl⟩
 ·rintro _ ⟨po1, rfl, rfl⟩
  clear ho
  dsimp only at h
  refine ww ?_
  cases h
  exact eF []

/- orchestrator/orchestratorref14.Same -/
def F11_l10 (x1 : TStore) : List Change → Nat → Option ((Bool) ⊕ (Unit))
  | [], o10_0 => some (Sum.inr (()))
  | xo10 :: xs, o10_0 => (((rdI x1.History ((o10_0 : Int))).bind fun y13 => (if ¬ (xo10.Rev = y13.Rev) then some true else (if ¬ (xo10.Kind = y13.Kind) then some true else (F30 xo10.Object y13.Object).bind fun t16 => some (nb t16)))).bind fun o12 => (if o12 = true then (some false).map Sum.inl else F11_l10 x1 xs (o10_0 + 1)))
def F11 (x0 : TStore) (x1 : TStore) : Option (Bool) := (((if ¬ (x0.Rev = x1.Rev) then some true else (if ¬ (x0.Floor = x1.Floor) then some true else (if ¬ (x0.NextUid = x1.NextUid) then some true else (if ¬ ((x0.History.length : Int) = (x1.History.length : Int)) then some true else (F29 x0.Base x1.Base).bind fun t6 => (if (nb t6) = true then some true else (F29 x0.Objects x1.Objects).bind fun t8 => some (nb t8))))))).bind fun o1 => (if o1 = true then some false else (((ck (0 ≤ x0.History.length ∧ x0.History.length ≤ 4294967290)).bind fun u18 => F11_l10 x1 x0.History 0 : Option ((Bool) ⊕ (Unit))).bind fun o10 => match o10 with | Sum.inl f => some f | Sum.inr po10 => some true)))
def a11 : AFn := ⟨101, [(.tmp 4)],
 (.seq (.reg [sq 2 (.box (.t 0)),
sq 3 (.box (.t 1)),
sq 4 (.mv (kB false))])
 (.seq (.seq (.sem (.reg [sq 6 (.fieldA 0 (.t 2)),
sq 7 (.load none (.t 6)),
sq 8 (.fieldA 0 (.t 3)),
sq 9 (.load none (.t 8)),
sq 10 (.bin .neq (.t 7) (.t 9)),
sq 11 (.mv (.t 10)),
⟨(some 12), (some (11, false)), .fieldA 1 (.t 2), [], (.new [])⟩,
⟨(some 13), (some (11, false)), .load none (.t 12), [], (.new [])⟩,
⟨(some 14), (some (11, false)), .fieldA 1 (.t 3), [], (.new [])⟩,
⟨(some 15), (some (11, false)), .load none (.t 14), [], (.new [])⟩,
⟨(some 16), (some (11, false)), .bin .neq (.t 13) (.t 15), [], (.new [])⟩,
sq 17 (.pick (.t 11) (kB true) (.t 16)),
sq 18 (.mv (.t 17)),
⟨(some 19), (some (18, false)), .fieldA 2 (.t 2), [], (.new [])⟩,
⟨(some 20), (some (18, false)), .load none (.t 19), [], (.new [])⟩,
⟨(some 21), (some (18, false)), .fieldA 2 (.t 3), [], (.new [])⟩,
⟨(some 22), (some (18, false)), .load none (.t 21), [], (.new [])⟩,
⟨(some 23), (some (18, false)), .bin .neq (.t 20) (.t 22), [], (.new [])⟩,
sq 24 (.pick (.t 18) (kB true) (.t 23)),
sq 25 (.mv (.t 24)),
⟨(some 26), (some (25, false)), .fieldA 5 (.t 2), [], (.new [])⟩,
⟨(some 27), (some (25, false)), .load none (.t 26), [], (.new [])⟩,
⟨(some 28), (some (25, false)), .len (.t 27), [], (.new [])⟩,
⟨(some 29), (some (25, false)), .fieldA 5 (.t 3), [], (.new [])⟩,
⟨(some 30), (some (25, false)), .load none (.t 29), [], (.new [])⟩,
⟨(some 31), (some (25, false)), .len (.t 30), [], (.new [])⟩,
⟨(some 32), (some (25, false)), .bin .neq (.t 28) (.t 31), [], (.new [])⟩,
sq 33 (.pick (.t 25) (kB true) (.t 32)),
sq 34 (.mv (.t 33)),
⟨(some 35), (some (34, false)), .fieldA 3 (.t 2), [], (.new [])⟩,
⟨(some 36), (some (34, false)), .load none (.t 35), [], (.new [])⟩,
⟨(some 37), (some (34, false)), .fieldA 3 (.t 3), [], (.new [])⟩,
⟨(some 38), (some (34, false)), .load none (.t 37), [], (.new [])⟩,
⟨(some 39), (some (34, false)), .call 29 [(.t 36), (.t 38)], [], (.new [])⟩,
⟨(some 40), (some (34, false)), .not (.t 39), [], (.new [])⟩,
sq 41 (.pick (.t 34) (kB true) (.t 40)),
sq 42 (.mv (.t 41)),
⟨(some 43), (some (42, false)), .fieldA 4 (.t 2), [], (.new [])⟩,
⟨(some 44), (some (42, false)), .load none (.t 43), [], (.new [])⟩,
⟨(some 45), (some (42, false)), .fieldA 4 (.t 3), [], (.new [])⟩,
⟨(some 46), (some (42, false)), .load none (.t 45), [], (.new [])⟩,
⟨(some 47), (some (42, false)), .call 29 [(.t 44), (.t 46)], [], (.new [])⟩,
⟨(some 48), (some (42, false)), .not (.t 47), [], (.new [])⟩,
sq 49 (.pick (.t 42) (kB true) (.t 48))]))
 (.cond (.t 49)
 (.seq (.reg [sq 4 (.mv (kB false))])
 .ret)
 .skip))
 (.seq (.seq (.reg [sq 5 (.mv (kI 0))])
 (.sem (.block 0 (.loop (.seq (.seq (.reg [sq 50 (.mv (.t 5)),
sq 51 (.fieldA 5 (.t 2)),
sq 52 (.load none (.t 51)),
sq 53 (.len (.t 52)),
sq 54 (.bin .lss (.t 50) (.t 53))])
 (.cond (.t 54)
 .skip
 (.exit 0)))
 (.seq (.block 1 (.seq (.sem (.regd [sq 57 (.fieldA 5 (.t 2)),
sd 58 (.load none (.t 57)) [0],
sq 59 (.mv (.t 5)),
sd 60 (.indexA 25 (.t 58) (.t 59)) [0, 1, 2],
sd 61 (.fieldA 0 (.t 60)) [0, 1, 2, 3],
sd 62 (.load none (.t 61)) [0, 1, 2, 3, 4],
sq 63 (.fieldA 5 (.t 3)),
sd 64 (.load none (.t 63)) [6],
sq 65 (.mv (.t 5)),
sd 66 (.indexA 25 (.t 64) (.t 65)) [6, 7, 8],
sd 67 (.fieldA 0 (.t 66)) [6, 7, 8, 9],
sd 68 (.load none (.t 67)) [6, 7, 8, 9, 10],
sd 69 (.bin .neq (.t 62) (.t 68)) [0, 1, 2, 3, 4, 5, 6, 7, 8, 9, 10, 11],
sd 70 (.mv (.t 69)) [0, 1, 2, 3, 4, 5, 6, 7, 8, 9, 10, 11, 12],
⟨(some 71), (some (70, false)), .fieldA 5 (.t 2), [0, 1, 2, 3, 4, 5, 6, 7, 8, 9, 10, 11, 12, 13], (.new [])⟩,
⟨(some 72), (some (70, false)), .load none (.t 71), [0, 1, 2, 3, 4, 5, 6, 7, 8, 9, 10, 11, 12, 13, 14], (.new [])⟩,
⟨(some 73), (some (70, false)), .mv (.t 5), [0, 1, 2, 3, 4, 5, 6, 7, 8, 9, 10, 11, 12, 13], (.new [])⟩,
⟨(some 74), (some (70, false)), .indexA 25 (.t 72) (.t 73), [0, 1, 2, 3, 4, 5, 6, 7, 8, 9, 10, 11, 12, 13, 14, 15, 16], (.new [])⟩,
⟨(some 75), (some (70, false)), .fieldA 1 (.t 74), [0, 1, 2, 3, 4, 5, 6, 7, 8, 9, 10, 11, 12, 13, 14, 15, 16, 17], (.new [])⟩,
⟨(some 76), (some (70, false)), .load none (.t 75), [0, 1, 2, 3, 4, 5, 6, 7, 8, 9, 10, 11, 12, 13, 14, 15, 16, 17, 18], (.new [])⟩,
⟨(some 77), (some (70, false)), .fieldA 5 (.t 3), [0, 1, 2, 3, 4, 5, 6, 7, 8, 9, 10, 11, 12, 13], (.new [])⟩,
⟨(some 78), (some (70, false)), .load none (.t 77), [0, 1, 2, 3, 4, 5, 6, 7, 8, 9, 10, 11, 12, 13, 20], (.new [])⟩,
⟨(some 79), (some (70, false)), .mv (.t 5), [0, 1, 2, 3, 4, 5, 6, 7, 8, 9, 10, 11, 12, 13], (.new [])⟩,
⟨(some 80), (some (70, false)), .indexA 25 (.t 78) (.t 79), [0, 1, 2, 3, 4, 5, 6, 7, 8, 9, 10, 11, 12, 13, 20, 21, 22], (.new [])⟩,
⟨(some 81), (some (70, false)), .fieldA 1 (.t 80), [0, 1, 2, 3, 4, 5, 6, 7, 8, 9, 10, 11, 12, 13, 20, 21, 22, 23], (.new [])⟩,
⟨(some 82), (some (70, false)), .load none (.t 81), [0, 1, 2, 3, 4, 5, 6, 7, 8, 9, 10, 11, 12, 13, 20, 21, 22, 23, 24], (.new [])⟩,
⟨(some 83), (some (70, false)), .bin .neq (.t 76) (.t 82), [0, 1, 2, 3, 4, 5, 6, 7, 8, 9, 10, 11, 12, 13, 14, 15, 16, 17, 18, 19, 20, 21, 22, 23, 24, 25], (.new [])⟩,
⟨(some 84), none, .pick (.t 70) (kB true) (.t 83), [0, 1, 2, 3, 4, 5, 6, 7, 8, 9, 10, 11, 12, 13, 14, 15, 16, 17, 18, 19, 20, 21, 22, 23, 24, 25, 26], (.lone [])⟩,
sd 85 (.mv (.t 84)) [0, 1, 2, 3, 4, 5, 6, 7, 8, 9, 10, 11, 12, 13, 14, 15, 16, 17, 18, 19, 20, 21, 22, 23, 24, 25, 26, 27],
⟨(some 86), (some (85, false)), .fieldA 5 (.t 2), [0, 1, 2, 3, 4, 5, 6, 7, 8, 9, 10, 11, 12, 13, 14, 15, 16, 17, 18, 19, 20, 21, 22, 23, 24, 25, 26, 27, 28], (.new [])⟩,
⟨(some 87), (some (85, false)), .load none (.t 86), [0, 1, 2, 3, 4, 5, 6, 7, 8, 9, 10, 11, 12, 13, 14, 15, 16, 17, 18, 19, 20, 21, 22, 23, 24, 25, 26, 27, 28, 29], (.new [])⟩,
⟨(some 88), (some (85, false)), .mv (.t 5), [0, 1, 2, 3, 4, 5, 6, 7, 8, 9, 10, 11, 12, 13, 14, 15, 16, 17, 18, 19, 20, 21, 22, 23, 24, 25, 26, 27, 28], (.new [])⟩,
⟨(some 89), (some (85, false)), .indexA 25 (.t 87) (.t 88), [0, 1, 2, 3, 4, 5, 6, 7, 8, 9, 10, 11, 12, 13, 14, 15, 16, 17, 18, 19, 20, 21, 22, 23, 24, 25, 26, 27, 28, 29, 30, 31], (.new [])⟩,
⟨(some 90), (some (85, false)), .fieldA 2 (.t 89), [0, 1, 2, 3, 4, 5, 6, 7, 8, 9, 10, 11, 12, 13, 14, 15, 16, 17, 18, 19, 20, 21, 22, 23, 24, 25, 26, 27, 28, 29, 30, 31, 32], (.new [])⟩,
⟨(some 91), (some (85, false)), .load (some 23) (.t 90), [0, 1, 2, 3, 4, 5, 6, 7, 8, 9, 10, 11, 12, 13, 14, 15, 16, 17, 18, 19, 20, 21, 22, 23, 24, 25, 26, 27, 28, 29, 30, 31, 32, 33], (.new [])⟩,
⟨(some 92), (some (85, false)), .fieldA 5 (.t 3), [0, 1, 2, 3, 4, 5, 6, 7, 8, 9, 10, 11, 12, 13, 14, 15, 16, 17, 18, 19, 20, 21, 22, 23, 24, 25, 26, 27, 28], (.new [])⟩,
⟨(some 93), (some (85, false)), .load none (.t 92), [0, 1, 2, 3, 4, 5, 6, 7, 8, 9, 10, 11, 12, 13, 14, 15, 16, 17, 18, 19, 20, 21, 22, 23, 24, 25, 26, 27, 28, 35], (.new [])⟩,
⟨(some 94), (some (85, false)), .mv (.t 5), [0, 1, 2, 3, 4, 5, 6, 7, 8, 9, 10, 11, 12, 13, 14, 15, 16, 17, 18, 19, 20, 21, 22, 23, 24, 25, 26, 27, 28], (.new [])⟩,
⟨(some 95), (some (85, false)), .indexA 25 (.t 93) (.t 94), [0, 1, 2, 3, 4, 5, 6, 7, 8, 9, 10, 11, 12, 13, 14, 15, 16, 17, 18, 19, 20, 21, 22, 23, 24, 25, 26, 27, 28, 35, 36, 37], (.new [])⟩,
⟨(some 96), (some (85, false)), .fieldA 2 (.t 95), [0, 1, 2, 3, 4, 5, 6, 7, 8, 9, 10, 11, 12, 13, 14, 15, 16, 17, 18, 19, 20, 21, 22, 23, 24, 25, 26, 27, 28, 35, 36, 37, 38], (.new [])⟩,
⟨(some 97), (some (85, false)), .load (some 23) (.t 96), [0, 1, 2, 3, 4, 5, 6, 7, 8, 9, 10, 11, 12, 13, 14, 15, 16, 17, 18, 19, 20, 21, 22, 23, 24, 25, 26, 27, 28, 35, 36, 37, 38, 39], (.new [])⟩,
⟨(some 98), (some (85, false)), .call 30 [(.t 91), (.t 97)], [0, 1, 2, 3, 4, 5, 6, 7, 8, 9, 10, 11, 12, 13, 14, 15, 16, 17, 18, 19, 20, 21, 22, 23, 24, 25, 26, 27, 28, 29, 30, 31, 32, 33, 34, 35, 36, 37, 38, 39, 40], (.lone [])⟩,
⟨(some 99), (some (85, false)), .not (.t 98), [0, 1, 2, 3, 4, 5, 6, 7, 8, 9, 10, 11, 12, 13, 14, 15, 16, 17, 18, 19, 20, 21, 22, 23, 24, 25, 26, 27, 28, 29, 30, 31, 32, 33, 34, 35, 36, 37, 38, 39, 40, 41], (.new [])⟩,
⟨(some 100), none, .pick (.t 85) (kB true) (.t 99), [0, 1, 2, 3, 4, 5, 6, 7, 8, 9, 10, 11, 12, 13, 14, 15, 16, 17, 18, 19, 20, 21, 22, 23, 24, 25, 26, 27, 28, 29, 30, 31, 32, 33, 34, 35, 36, 37, 38, 39, 40, 41, 42], (.lone [])⟩]))
 (.cond (.t 100)
 (.seq (.reg [sq 4 (.mv (kB false))])
 .ret)
 .skip)))
 (.reg [sq 55 (.mv (.t 5)),
sq 56 (.bin .add (.t 55) (kI 1)),
sq 5 (.mv (.t 56))])))))))
 (.seq (.reg [sq 4 (.mv (kB true))])
 .ret))))⟩
theorem a11_ok : afn Try.prog 11 = some a11.er := by kernel_rfl
theorem F11_ok {x0 : TStore} {x1 : TStore} {r : Bool} (h : F11 x0 x1 = some r) : CallD Try.prog 11 [.agg [dI x0.Rev, dI x0.Floor, dI x0.NextUid, dM (x0.Base.map eObject), dM (x0.Objects.map eObject), dM (x0.History.map eChange)], .agg [dI x1.Rev, dI x1.Floor, dI x1.NextUid, dM (x1.Base.map eObject), dM (x1.Objects.map eObject), dM (x1.History.map eChange)]] [] (tupV [.c (dB r)]) [] := by
 refine callS a11_ok (by simp [a11]) ?_
 rw [F11] at h
 simp only [a11, VW.down, Nat.reduceEqDiff, reduceCtorEq, Nat.reduceAdd, Nat.reduceLeDiff, Nat.reduceLT, Nat.reduceBEq, Nat.reduceSub, EE.down]
 obtain ⟨o1, ho, h⟩ := bi h
 refine cutS (fun s => s = ⟨[(2, .one (.c (.pt 0 0))), (3, .one (.c (.pt 1 0))), (49, .one (.c (dB o1)))], [some (.box [dI x0.Rev, dI x0.Floor, dI x0.NextUid, dM (x0.Base.map eObject), dM (x0.Objects.map eObject), dM (x0.History.map eChange)]), some (.box [dI x1.Rev, dI x1.Floor, dI x1.NextUid, dM (x1.Base.map eObject), dM (x1.Objects.map eObject), dM (x1.History.map eChange)])]⟩) ?_ ?_
 ·have h := ho
  clear ho
  refine ww ?_
  refine guardSh h (fun g2 h => ?_) (fun g2 h => ?_)
  ·refine ww ?_
   cases h
   exact eM [some 0, some 1] rfl
  ·refine ww ?_
   refine guardSh h (fun g3 h => ?_) (fun g3 h => ?_)
   ·refine ww ?_
    cases h
    exact eM [some 0, some 1] rfl
   ·refine ww ?_
    refine guardSh h (fun g4 h => ?_) (fun g4 h => ?_)
    ·refine ww ?_
     cases h
     exact eM [some 0, some 1] rfl
    ·refine ww ?_
     refine guardSh h (fun g5 h => ?_) (fun g5 h => ?_)
     ·refine ww ?_
      cases h
      exact eM [some 0, some 1] rfl
     ·refine ww ?_
      obtain ⟨t6, ht6, h⟩ := bi h
      refine cN [] (F29_ok ht6) trivial ?_
      refine ww ?_
      refine guardSBh h (fun g7 h => ?_) (fun g7 h => ?_)
      ·refine ww ?_
       cases h
       exact eM [some 0, some 1] rfl
      ·refine ww ?_
       obtain ⟨t8, ht8, h⟩ := bi h
       refine cN [] (F29_ok ht8) trivial ?_
       refine ww ?_
       cases h
       exact eM [some 0, some 1] rfl
 ·rintro _ rfl
  clear ho
  refine ww ?_
  refine condBh h (fun c9 h => ?_) (fun c9 h => ?_)
  ·refine ww ?_
   cases h
   exact eF []
  ·refine ww ?_
   obtain ⟨o10, ho, h⟩ := bi h
   refine cutS (fun s => ∃ po10, o10 = Sum.inr po10 ∧ s = ⟨[], []⟩) ?_ ?_
   ·have h0o10 := h
    have h := ho
    clear ho
    obtain ⟨_, hk, h⟩ := bi h
    have hk := ck_some hk
    refine ww ?_
    refine bL (fun j s => ∃ (o10_0 : Nat), (o10_0 ≤ x0.History.length ∧ j = x0.History.length - o10_0) ∧ s = ⟨[(2, .one (.c (.pt 0 0))), (3, .one (.c (.pt 1 0))), (5, .one (.c (dI ((o10_0 : Int)))))], [some (.box [dI x0.Rev, dI x0.Floor, dI x0.NextUid, dM (x0.Base.map eObject), dM (x0.Objects.map eObject), dM (x0.History.map eChange)]), some (.box [dI x1.Rev, dI x1.Floor, dI x1.NextUid, dM (x1.Base.map eObject), dM (x1.Objects.map eObject), dM (x1.History.map eChange)])]⟩ ∧ F11_l10 x1 (x0.History.drop o10_0) o10_0 = some o10) (x0.History.length - 0) [some 0, some 1] ⟨0, ⟨hk.1, rfl⟩, rfl, h⟩ ?_
    rintro _ _ ⟨o10_0, ⟨hi, rfl⟩, rfl, h⟩
    refine ww ?_
    refine condS (fun c11 => ?_) (fun c11 => ?_)
    ·obtain ⟨xo10, hxo10, hd⟩ := countY (show (o10_0 : Int) < (x0.History.length : Int) from c11)
     rw [hd, F11_l10] at h
     refine ww ?_
     obtain ⟨o12, ho, h⟩ := bi h
     refine cutS (fun s => s = ⟨[(2, .one (.c (.pt 0 0))), (3, .one (.c (.pt 1 0))), (5, .one (.c (dI ((o10_0 : Int))))), (100, .one (.c (dB o12)))], [some (.box [dI x0.Rev, dI x0.Floor, dI x0.NextUid, dM (x0.Base.map eObject), dM (x0.Objects.map eObject), dM (x0.History.map eChange)]), some (.box [dI x1.Rev, dI x1.Floor, dI x1.NextUid, dM (x1.Base.map eObject), dM (x1.Objects.map eObject), dM (x1.History.map eChange)])]⟩) ?_ ?_
     ·have h := ho
      clear ho
      refine ww ?_
      refine t_idxF (enc := eChange) (xs := x0.History) rfl rfl hxo10 rfl ?_
      refine ww ?_
      obtain ⟨y13, hy13, h⟩ := bi h
      refine t_idxF (enc := eChange) (xs := x1.History) rfl rfl hy13 rfl ?_
      refine ww ?_
      refine guardDh h (fun g14 h => ?_) (fun g14 h => ?_)
      ·refine ww ?_
       cases h
       exact eM [some 0, some 1] rfl
      ·refine ww ?_
       refine t_idxF (enc := eChange) (xs := x0.History) rfl rfl hxo10 rfl ?_
       refine ww ?_
       refine t_idxF (enc := eChange) (xs := x1.History) rfl rfl hy13 rfl ?_
       refine ww ?_
       refine guardDh h (fun g15 h => ?_) (fun g15 h => ?_)
       ·refine ww ?_
        cases h
        exact eM [some 0, some 1] rfl
       ·refine ww ?_
        refine t_idxF (enc := eChange) (xs := x0.History) rfl rfl hxo10 rfl ?_
        refine ww ?_
        refine t_idxF (enc := eChange) (xs := x1.History) rfl rfl hy13 rfl ?_
        refine ww ?_
        obtain ⟨t16, ht16, h⟩ := bi h
        refine cN [] (F30_ok ht16) trivial ?_
        refine ww ?_
        cases h
        exact eM [some 0, some 1] rfl
     ·rintro _ rfl
      clear ho
      refine ww ?_
      refine condBh h (fun c17 h => ?_) (fun c17 h => ?_)
      ·refine ww ?_
       obtain ⟨fh0o10, hfh0o10, rfl⟩ := Option.map_eq_some_iff.1 h
       have h := hfh0o10.trans h0o10
       cases h
       exact eF []
      ·refine ww ?_
       rw [wrapN (by omega)]
       exact eL' (x0.History.length - (o10_0 + 1)) [some 0, some 1] ⟨o10_0 + 1, ⟨by omega, rfl⟩, rfl, h⟩ (by omega)
    ·rw [countN (show ¬ ((o10_0 : Int) < (x0.History.length : Int)) from c11), F11_l10] at h
     refine ww ?_
     cases h
     exact eM [] ⟨_, rfl, rfl⟩
   ·rintro _ ⟨po10, rfl, rfl⟩
    clear ho
    dsimp only at h
    refine ww ?_
    cases h
    exact eF []

/- orchestrator/orchestratorlaw14.StoreRevisions -/
def F3_l5  : List TOp → Nat → Int → Int → Int → (List Object) → (List Object) → (List Change) → Option ((Bool) ⊕ (TStore))
  | [], o5_6, o5_0, o5_1, o5_2, o5_3, o5_4, o5_5 => some (Sum.inr ((⟨o5_0, o5_1, o5_2, o5_3, o5_4, o5_5⟩ : TStore)))
  | xo5 :: xs, o5_6, o5_0, o5_1, o5_2, o5_3, o5_4, o5_5 => (F10 ((⟨o5_0, o5_1, o5_2, o5_3, o5_4, o5_5⟩ : TStore)) xo5).bind fun t7 => (((if t7.1 < o5_0 then some true else (if (IntKind.i64.wrap (o5_0 + 1)) < t7.1 then some true else (if t7.2.2.1 < o5_2 then some true else (if ¬ (t7.2.2.2.2.2.2.2 = 0) then (F11 ((⟨o5_0, o5_1, o5_2, o5_3, o5_4, o5_5⟩ : TStore)) ((⟨t7.1, t7.2.1, t7.2.2.1, t7.2.2.2.1, t7.2.2.2.2.1, t7.2.2.2.2.2.1⟩ : TStore))).bind fun t13 => some (nb t13) else some false))))).bind fun o8 => (if o8 = true then (some false).map Sum.inl else (((if o5_0 < t7.1 then (if ¬ ((t7.2.2.2.2.2.2.1).Meta.Version = t7.1) then some true else some (decide (¬ (t7.2.2.2.2.2.2.2 = 0)))) else some false)).bind fun o15 => (if o15 = true then (some false).map Sum.inl else (((if o5_2 < t7.2.2.1 then (if ¬ ((t7.2.2.2.2.2.2.1).Meta.Uid = o5_2) then some true else some (decide (¬ (t7.2.2.1 = (IntKind.i64.wrap (o5_2 + 1)))))) else some false)).bind fun o19 => (if o19 = true then (some false).map Sum.inl else F3_l5  xs (o5_6 + 1) t7.1 t7.2.1 t7.2.2.1 t7.2.2.2.1 t7.2.2.2.2.1 t7.2.2.2.2.2.1))))))
def F3_l24 (po5 : TStore) : List Object → Nat → Option ((Bool) ⊕ (Unit))
  | [], o24_0 => some (Sum.inr (()))
  | xo24 :: xs, o24_0 => (rdI ((po5).Objects) ((o24_0 : Int))).bind fun y26 => (F12 ((⟨(po5).Rev, (po5).Floor, (po5).NextUid, (po5).Base, (po5).Objects, (po5).History⟩ : TStore)) y26).bind fun t27 => (((if ¬ (t27.2.2.2.2.2.2.2.2.2.2.2.2.2.2.2.2.2.2.2.2.2.2.2.2.2.2.2.2 = 0) then some true else (F11 ((⟨(po5).Rev, (po5).Floor, (po5).NextUid, (po5).Base, (po5).Objects, (po5).History⟩ : TStore)) ((⟨t27.1, t27.2.1, ((po5).NextUid), t27.2.2.1, t27.2.2.2.1, t27.2.2.2.2.1⟩ : TStore))).bind fun t30 => (if (nb t30) = true then some true else (F13 ((⟨(⟨t27.2.2.2.2.2.1, t27.2.2.2.2.2.2.1, t27.2.2.2.2.2.2.2.1, t27.2.2.2.2.2.2.2.2.1, t27.2.2.2.2.2.2.2.2.2.1, t27.2.2.2.2.2.2.2.2.2.2.1, t27.2.2.2.2.2.2.2.2.2.2.2.1, t27.2.2.2.2.2.2.2.2.2.2.2.2.1, t27.2.2.2.2.2.2.2.2.2.2.2.2.2.1, t27.2.2.2.2.2.2.2.2.2.2.2.2.2.2.1, t27.2.2.2.2.2.2.2.2.2.2.2.2.2.2.2.1, t27.2.2.2.2.2.2.2.2.2.2.2.2.2.2.2.2.1, t27.2.2.2.2.2.2.2.2.2.2.2.2.2.2.2.2.2.1⟩ : Meta), (⟨t27.2.2.2.2.2.2.2.2.2.2.2.2.2.2.2.2.2.2.1, t27.2.2.2.2.2.2.2.2.2.2.2.2.2.2.2.2.2.2.2.1, t27.2.2.2.2.2.2.2.2.2.2.2.2.2.2.2.2.2.2.2.2.1, t27.2.2.2.2.2.2.2.2.2.2.2.2.2.2.2.2.2.2.2.2.2.1, t27.2.2.2.2.2.2.2.2.2.2.2.2.2.2.2.2.2.2.2.2.2.2.1⟩ : TValue), (⟨t27.2.2.2.2.2.2.2.2.2.2.2.2.2.2.2.2.2.2.2.2.2.2.2.1, t27.2.2.2.2.2.2.2.2.2.2.2.2.2.2.2.2.2.2.2.2.2.2.2.2.1, t27.2.2.2.2.2.2.2.2.2.2.2.2.2.2.2.2.2.2.2.2.2.2.2.2.2.1, t27.2.2.2.2.2.2.2.2.2.2.2.2.2.2.2.2.2.2.2.2.2.2.2.2.2.2.1, t27.2.2.2.2.2.2.2.2.2.2.2.2.2.2.2.2.2.2.2.2.2.2.2.2.2.2.2.1⟩ : TValue)⟩ : Object)) y26).bind fun t32 => some (nb t32)))).bind fun o28 => (if o28 = true then (some false).map Sum.inl else F3_l24 po5 xs (o24_0 + 1)))
def F3 (x0 : (List TOp)) : Option (Bool) := (F7 x0).bind fun t1 => (if (nb t1) = true then (F8).bind fun t3 => some t3 else (F9).bind fun t4 => (((ck (0 ≤ x0.length ∧ x0.length ≤ 4294967290)).bind fun u23 => F3_l5 x0 0 0 0 1 ([]) ([]) ([]) : Option ((Bool) ⊕ (TStore))).bind fun o5 => match o5 with | Sum.inl f => some f | Sum.inr po5 => (((ck (0 ≤ (((po5).Objects)).length ∧ (((po5).Objects)).length ≤ 4294967290)).bind fun u34 => F3_l24 po5 (((po5).Objects)) 0 : Option ((Bool) ⊕ (Unit))).bind fun o24 => match o24 with | Sum.inl f => some f | Sum.inr po24 => (F8).bind fun t35 => some t35)))
def a3 : AFn := ⟨139, [(.tmp 2)],
 (.seq (.reg [sq 2 (.mv (kB false))])
 (.seq (.seq (.reg [sq 12 (.mv (.t 0)),
sq 13 (.call 7 [(.t 12)]),
sq 14 (.not (.t 13))])
 (.cond (.t 14)
 (.seq (.reg [sq 15 (.call 8 []),
sq 2 (.mv (.t 15))])
 .ret)
 .skip))
 (.seq (.reg [sq 16 (.call 9 []),
sq 3 (.zbox [dI 0, dI 0, dI 0, dN, dN, dN]),
su (.store 6 (.t 3) (.t 16))])
 (.seq (.seq (.reg [sq 4 (.mv (kI 0))])
 (.sem (.block 0 (.loop (.seq (.seq (.reg [sq 17 (.mv (.t 4)),
sq 18 (.mv (.t 0)),
sq 19 (.len (.t 18)),
sq 20 (.bin .lss (.t 17) (.t 19))])
 (.cond (.t 20)
 .skip
 (.exit 0)))
 (.seq (.block 1 (.seq (.regd [sq 24 (.load (some 6) (.t 3)),
sq 25 (.mv (.t 0)),
sq 26 (.mv (.t 4)),
sd 27 (.indexA 28 (.t 25) (.t 26)) [1, 2],
sd 28 (.load (some 28) (.t 27)) [1, 2, 3],
⟨(some 29), none, .call 10 [(.t 24), (.t 28)], [0, 1, 2, 3, 4], (.new [0, 1, 2, 3, 4])⟩,
sd 23 (.mv (.t 29)) [0, 1, 2, 3, 4, 5],
sd 30 (.ext (.t 23) 0) [0, 1, 2, 3, 4, 5, 6],
sd 31 (.ext (.t 23) 1) [0, 1, 2, 3, 4, 5, 6],
sd 32 (.ext (.t 23) 2) [0, 1, 2, 3, 4, 5, 6],
sq 5 (.zbox [dI 0, dI 0, dI 0, dN, dN, dN]),
sq 6 (.zbox [dS ⟨#[]⟩, dS ⟨#[]⟩, dS ⟨#[]⟩, dI 0, dI 0, dI 0, dI 0, dB false, dI 0, dN, dN, dN, dN, dI 0, dI 0, dS ⟨#[]⟩, dN, dN, dI 0, dI 0, dS ⟨#[]⟩, dN, dN]),
⟨none, none, .store 6 (.t 5) (.t 30), [0, 1, 2, 3, 4, 5, 6, 7, 10, 11], (.lone [])⟩,
⟨none, none, .store 23 (.t 6) (.t 31), [0, 1, 2, 3, 4, 5, 6, 7, 8, 10, 11, 12], (.lone [])⟩,
sd 7 (.mv (.t 32)) [0, 1, 2, 3, 4, 5, 6, 7, 8, 9, 10, 11, 12, 13]])
 (.seq (.seq (.sem (.reg [sq 33 (.fieldA 0 (.t 5)),
sq 34 (.load none (.t 33)),
sq 35 (.fieldA 0 (.t 3)),
sq 36 (.load none (.t 35)),
sq 37 (.bin .lss (.t 34) (.t 36)),
sq 38 (.mv (.t 37)),
⟨(some 39), (some (38, false)), .fieldA 0 (.t 5), [], (.new [])⟩,
⟨(some 40), (some (38, false)), .load none (.t 39), [], (.new [])⟩,
⟨(some 41), (some (38, false)), .fieldA 0 (.t 3), [], (.new [])⟩,
⟨(some 42), (some (38, false)), .load none (.t 41), [], (.new [])⟩,
⟨(some 43), (some (38, false)), .bin .add (.t 42) (kI 1), [], (.new [])⟩,
⟨(some 44), (some (38, false)), .bin .gtr (.t 40) (.t 43), [], (.new [])⟩,
sq 45 (.pick (.t 38) (kB true) (.t 44)),
sq 46 (.mv (.t 45)),
⟨(some 47), (some (46, false)), .fieldA 2 (.t 5), [], (.new [])⟩,
⟨(some 48), (some (46, false)), .load none (.t 47), [], (.new [])⟩,
⟨(some 49), (some (46, false)), .fieldA 2 (.t 3), [], (.new [])⟩,
⟨(some 50), (some (46, false)), .load none (.t 49), [], (.new [])⟩,
⟨(some 51), (some (46, false)), .bin .lss (.t 48) (.t 50), [], (.new [])⟩,
sq 52 (.pick (.t 46) (kB true) (.t 51)),
sq 53 (.mv (.t 52)),
⟨(some 54), (some (53, false)), .mv (.t 7), [], (.new [])⟩,
⟨(some 55), (some (53, false)), .bin .neq (.t 54) (kI 0), [], (.new [])⟩,
⟨(some 56), (some (53, false)), .mv (.t 55), [], (.new [])⟩,
⟨(some 57), (some (56, true)), .load (some 6) (.t 3), [], (.new [])⟩,
⟨(some 58), (some (56, true)), .load (some 6) (.t 5), [], (.new [])⟩,
⟨(some 59), (some (56, true)), .call 11 [(.t 57), (.t 58)], [], (.new [])⟩,
⟨(some 60), (some (56, true)), .not (.t 59), [], (.new [])⟩,
⟨(some 61), (some (53, false)), .pick (.t 56) (.t 60) (kB false), [], (.new [])⟩,
sq 62 (.pick (.t 53) (kB true) (.t 61))]))
 (.cond (.t 62)
 (.seq (.reg [sq 2 (.mv (kB false))])
 .ret)
 .skip))
 (.seq (.seq (.sem (.reg [sq 63 (.fieldA 0 (.t 5)),
sq 64 (.load none (.t 63)),
sq 65 (.fieldA 0 (.t 3)),
sq 66 (.load none (.t 65)),
sq 67 (.bin .gtr (.t 64) (.t 66)),
sq 68 (.mv (.t 67)),
⟨(some 69), (some (68, true)), .fieldA 0 (.t 6), [], (.new [])⟩,
⟨(some 70), (some (68, true)), .fieldA 4 (.t 69), [], (.new [])⟩,
⟨(some 71), (some (68, true)), .load none (.t 70), [], (.new [])⟩,
⟨(some 72), (some (68, true)), .fieldA 0 (.t 5), [], (.new [])⟩,
⟨(some 73), (some (68, true)), .load none (.t 72), [], (.new [])⟩,
⟨(some 74), (some (68, true)), .bin .neq (.t 71) (.t 73), [], (.new [])⟩,
⟨(some 75), (some (68, true)), .mv (.t 74), [], (.new [])⟩,
⟨(some 76), (some (75, false)), .mv (.t 7), [], (.new [])⟩,
⟨(some 77), (some (75, false)), .bin .neq (.t 76) (kI 0), [], (.new [])⟩,
⟨(some 78), (some (68, true)), .pick (.t 75) (kB true) (.t 77), [], (.new [])⟩,
sq 79 (.pick (.t 68) (.t 78) (kB false))]))
 (.cond (.t 79)
 (.seq (.reg [sq 2 (.mv (kB false))])
 .ret)
 .skip))
 (.seq (.seq (.sem (.reg [sq 80 (.fieldA 2 (.t 5)),
sq 81 (.load none (.t 80)),
sq 82 (.fieldA 2 (.t 3)),
sq 83 (.load none (.t 82)),
sq 84 (.bin .gtr (.t 81) (.t 83)),
sq 85 (.mv (.t 84)),
⟨(some 86), (some (85, true)), .fieldA 0 (.t 6), [], (.new [])⟩,
⟨(some 87), (some (85, true)), .fieldA 3 (.t 86), [], (.new [])⟩,
⟨(some 88), (some (85, true)), .load none (.t 87), [], (.new [])⟩,
⟨(some 89), (some (85, true)), .fieldA 2 (.t 3), [], (.new [])⟩,
⟨(some 90), (some (85, true)), .load none (.t 89), [], (.new [])⟩,
⟨(some 91), (some (85, true)), .bin .neq (.t 88) (.t 90), [], (.new [])⟩,
⟨(some 92), (some (85, true)), .mv (.t 91), [], (.new [])⟩,
⟨(some 93), (some (92, false)), .fieldA 2 (.t 5), [], (.new [])⟩,
⟨(some 94), (some (92, false)), .load none (.t 93), [], (.new [])⟩,
⟨(some 95), (some (92, false)), .fieldA 2 (.t 3), [], (.new [])⟩,
⟨(some 96), (some (92, false)), .load none (.t 95), [], (.new [])⟩,
⟨(some 97), (some (92, false)), .bin .add (.t 96) (kI 1), [], (.new [])⟩,
⟨(some 98), (some (92, false)), .bin .neq (.t 94) (.t 97), [], (.new [])⟩,
⟨(some 99), (some (85, true)), .pick (.t 92) (kB true) (.t 98), [], (.new [])⟩,
sq 100 (.pick (.t 85) (.t 99) (kB false))]))
 (.cond (.t 100)
 (.seq (.reg [sq 2 (.mv (kB false))])
 .ret)
 .skip))
 (.reg [sq 101 (.load (some 6) (.t 5)),
⟨none, none, .store 6 (.t 3) (.t 101), [], (.lone [5])⟩]))))))
 (.reg [sq 21 (.mv (.t 4)),
sq 22 (.bin .add (.t 21) (kI 1)),
sq 4 (.mv (.t 22))])))))))
 (.seq (.seq (.reg [sq 8 (.mv (kI 0))])
 (.sem (.block 2 (.loop (.seq (.seq (.reg [sq 102 (.mv (.t 8)),
sq 103 (.fieldA 4 (.t 3)),
sq 104 (.load none (.t 103)),
sq 105 (.len (.t 104)),
sq 106 (.bin .lss (.t 102) (.t 105))])
 (.cond (.t 106)
 .skip
 (.exit 2)))
 (.seq (.block 3 (.seq (.regd [sq 110 (.load (some 6) (.t 3)),
sq 111 (.fieldA 4 (.t 3)),
sd 112 (.load none (.t 111)) [1],
sq 113 (.mv (.t 8)),
sd 114 (.indexA 23 (.t 112) (.t 113)) [1, 2, 3],
sd 115 (.load (some 23) (.t 114)) [1, 2, 3, 4],
⟨(some 116), none, .call 12 [(.t 110), (.t 115)], [0, 1, 2, 3, 4, 5], (.new [0, 1, 2, 3, 4, 5])⟩,
sd 109 (.mv (.t 116)) [0, 1, 2, 3, 4, 5, 6],
sd 117 (.ext (.t 109) 0) [0, 1, 2, 3, 4, 5, 6, 7],
sd 118 (.ext (.t 109) 1) [0, 1, 2, 3, 4, 5, 6, 7],
sd 119 (.ext (.t 109) 2) [0, 1, 2, 3, 4, 5, 6, 7],
sq 9 (.zbox [dI 0, dI 0, dI 0, dN, dN, dN]),
sq 10 (.zbox [dS ⟨#[]⟩, dS ⟨#[]⟩, dS ⟨#[]⟩, dI 0, dI 0, dI 0, dI 0, dB false, dI 0, dN, dN, dN, dN, dI 0, dI 0, dS ⟨#[]⟩, dN, dN, dI 0, dI 0, dS ⟨#[]⟩, dN, dN]),
⟨none, none, .store 6 (.t 9) (.t 117), [0, 1, 2, 3, 4, 5, 6, 7, 8, 11, 12], (.lone [])⟩,
⟨none, none, .store 23 (.t 10) (.t 118), [0, 1, 2, 3, 4, 5, 6, 7, 8, 9, 11, 12, 13], (.lone [])⟩,
sd 11 (.mv (.t 119)) [0, 1, 2, 3, 4, 5, 6, 7, 8, 9, 10, 11, 12, 13, 14]])
 (.seq (.sem (.regd [sq 120 (.mv (.t 11)),
sd 121 (.bin .neq (.t 120) (kI 0)) [0],
sd 122 (.mv (.t 121)) [0, 1],
⟨(some 123), (some (122, false)), .load (some 6) (.t 3), [0, 1, 2], (.new [])⟩,
⟨(some 124), (some (122, false)), .load (some 6) (.t 9), [0, 1, 2], (.new [])⟩,
⟨(some 125), (some (122, false)), .call 11 [(.t 123), (.t 124)], [0, 1, 2, 3, 4], (.lone [])⟩,
⟨(some 126), (some (122, false)), .not (.t 125), [0, 1, 2, 3, 4, 5], (.new [])⟩,
⟨(some 127), none, .pick (.t 122) (kB true) (.t 126), [0, 1, 2, 3, 4, 5, 6], (.lone [])⟩,
sd 128 (.mv (.t 127)) [0, 1, 2, 3, 4, 5, 6, 7],
⟨(some 129), (some (128, false)), .load (some 23) (.t 10), [0, 1, 2, 3, 4, 5, 6, 7, 8], (.new [])⟩,
⟨(some 130), (some (128, false)), .fieldA 4 (.t 3), [0, 1, 2, 3, 4, 5, 6, 7, 8], (.new [])⟩,
⟨(some 131), (some (128, false)), .load none (.t 130), [0, 1, 2, 3, 4, 5, 6, 7, 8, 10], (.new [])⟩,
⟨(some 132), (some (128, false)), .mv (.t 8), [0, 1, 2, 3, 4, 5, 6, 7, 8], (.new [])⟩,
⟨(some 133), (some (128, false)), .indexA 23 (.t 131) (.t 132), [0, 1, 2, 3, 4, 5, 6, 7, 8, 10, 11, 12], (.new [])⟩,
⟨(some 134), (some (128, false)), .load (some 23) (.t 133), [0, 1, 2, 3, 4, 5, 6, 7, 8, 10, 11, 12, 13], (.new [])⟩,
⟨(some 135), (some (128, false)), .call 13 [(.t 129), (.t 134)], [0, 1, 2, 3, 4, 5, 6, 7, 8, 9, 10, 11, 12, 13, 14], (.lone [])⟩,
⟨(some 136), (some (128, false)), .not (.t 135), [0, 1, 2, 3, 4, 5, 6, 7, 8, 9, 10, 11, 12, 13, 14, 15], (.new [])⟩,
⟨(some 137), none, .pick (.t 128) (kB true) (.t 136), [0, 1, 2, 3, 4, 5, 6, 7, 8, 9, 10, 11, 12, 13, 14, 15, 16], (.lone [])⟩]))
 (.cond (.t 137)
 (.seq (.reg [sq 2 (.mv (kB false))])
 .ret)
 .skip))))
 (.reg [sq 107 (.mv (.t 8)),
sq 108 (.bin .add (.t 107) (kI 1)),
sq 8 (.mv (.t 108))])))))))
 (.seq (.reg [sq 138 (.call 8 []),
sq 2 (.mv (.t 138))])
 .ret))))))⟩
theorem a3_ok : afn Try.prog 3 = some a3.er := by kernel_rfl
theorem F3_ok {x0 : (List TOp)} {r : Bool} (h : F3 x0 = some r) : CallD Try.prog 3 [.c (dM (x0.map eTOp))] [] (tupV [.c (dB r)]) [] := by
 refine callS a3_ok (by simp [a3]) ?_
 rw [F3] at h
 simp only [a3, VW.down, Nat.reduceEqDiff, reduceCtorEq, Nat.reduceAdd, Nat.reduceLeDiff, Nat.reduceLT, Nat.reduceBEq, Nat.reduceSub, EE.down]
 obtain ⟨t1, ht1, h⟩ := bi h
 refine cN [] (F7_ok ht1) trivial ?_
 refine ww ?_
 refine condBh h (fun c2 h => ?_) (fun c2 h => ?_)
 ·refine ww ?_
  obtain ⟨t3, ht3, h⟩ := bi h
  refine cN [] (F8_ok ht3) trivial ?_
  refine ww ?_
  cases h
  exact eF []
 ·refine ww ?_
  obtain ⟨t4, ht4, h⟩ := bi h
  refine cN [] (F9_ok ht4) trivial ?_
  refine ww ?_
  obtain ⟨o5, ho, h⟩ := bi h
  refine cutS (fun s => ∃ po5, o5 = Sum.inr po5 ∧ s = ⟨[(3, .one (.c (.pt 0 0)))], [some (.box [dI ((po5).Rev), dI ((po5).Floor), dI ((po5).NextUid), dM (((po5).Base).map eObject), dM (((po5).Objects).map eObject), dM (((po5).History).map eChange)])]⟩) ?_ ?_
  ·have h0o5 := h
   have h := ho
   clear ho
   obtain ⟨_, hk, h⟩ := bi h
   have hk := ck_some hk
   refine ww ?_
   refine bL (fun j s => ∃ (o5_6 : Nat) (o5_0 : Int) (o5_1 : Int) (o5_2 : Int) (o5_3 : List Object) (o5_4 : List Object) (o5_5 : List Change), (o5_6 ≤ x0.length ∧ j = x0.length - o5_6) ∧ s = ⟨[(0, .one (.c (dM (x0.map eTOp)))), (3, .one (.c (.pt 0 0))), (4, .one (.c (dI ((o5_6 : Int)))))], [some (.box [dI o5_0, dI o5_1, dI o5_2, dM (o5_3.map eObject), dM (o5_4.map eObject), dM (o5_5.map eChange)])]⟩ ∧ F3_l5 (x0.drop o5_6) o5_6 o5_0 o5_1 o5_2 o5_3 o5_4 o5_5 = some o5) (x0.length - 0) [some 0] ⟨0, 0, 0, 1, [], [], [], ⟨hk.1, rfl⟩, rfl, h⟩ ?_
   rintro _ _ ⟨o5_6, o5_0, o5_1, o5_2, o5_3, o5_4, o5_5, ⟨hi, rfl⟩, rfl, h⟩
   refine ww ?_
   refine condS (fun c6 => ?_) (fun c6 => ?_)
   ·obtain ⟨xo5, hxo5, hd⟩ := countY (show (o5_6 : Int) < (x0.length : Int) from c6)
    rw [hd, F3_l5] at h
    refine ww ?_
    refine t_idxF (enc := eTOp) (xs := x0) rfl rfl hxo5 rfl ?_
    refine ww ?_
    obtain ⟨t7, ht7, h⟩ := bi h
    refine cN [] (F10_ok ht7) trivial ?_
    refine ww ?_
    refine kD_new (by simp [wrs, allW, hset]) ?_
    refine ww ?_
    refine kD_new (by simp [wrs, allW, hset]) ?_
    refine ww ?_
    refine kD_new (by simp [wrs, allW, hset]) ?_
    refine ww ?_
    obtain ⟨o8, ho, h⟩ := bi h
    refine cutS (fun s => s = ⟨[(0, .one (.c (dM (x0.map eTOp)))), (3, .one (.c (.pt 0 0))), (4, .one (.c (dI ((o5_6 : Int))))), (5, .one (.c (.pt 1 0))), (6, .one (.c (.pt 5 0))), (7, .one (.c (dI t7.2.2.2.2.2.2.2))), (62, .one (.c (dB o8)))], [some (.box [dI o5_0, dI o5_1, dI o5_2, dM (o5_3.map eObject), dM (o5_4.map eObject), dM (o5_5.map eChange)]), some (.box [dI t7.1, dI t7.2.1, dI t7.2.2.1, .own 2 0 0 (t7.2.2.2.1.length) none, .own 3 0 0 (t7.2.2.2.2.1.length) none, .own 4 0 0 (t7.2.2.2.2.2.1.length) none]), some (.arr 0 23 (t7.2.2.2.1.map eObject)), some (.arr 0 23 (t7.2.2.2.2.1.map eObject)), some (.arr 0 25 (t7.2.2.2.2.2.1.map eChange)), some (.box [dS ((t7.2.2.2.2.2.2.1).Meta.Kind), dS ((t7.2.2.2.2.2.2.1).Meta.Namespace), dS ((t7.2.2.2.2.2.2.1).Meta.Name), dI ((t7.2.2.2.2.2.2.1).Meta.Uid), dI ((t7.2.2.2.2.2.2.1).Meta.Version), dI ((t7.2.2.2.2.2.2.1).Meta.Generation), dI ((t7.2.2.2.2.2.2.1).Meta.Created), dB ((t7.2.2.2.2.2.2.1).Meta.Deleting), dI ((t7.2.2.2.2.2.2.1).Meta.DeleteAt), dM (((t7.2.2.2.2.2.2.1).Meta.Labels).map eLabel), dM (((t7.2.2.2.2.2.2.1).Meta.Owners).map eOwner), dM (((t7.2.2.2.2.2.2.1).Meta.Finalizers).map eS), dM (((t7.2.2.2.2.2.2.1).Meta.Managers).map eManager), dI ((t7.2.2.2.2.2.2.1).Spec.Kind), dI ((t7.2.2.2.2.2.2.1).Spec.N), dS ((t7.2.2.2.2.2.2.1).Spec.S), dM (((t7.2.2.2.2.2.2.1).Spec.List_).map eTValue), dM (((t7.2.2.2.2.2.2.1).Spec.Fields).map eTField), dI ((t7.2.2.2.2.2.2.1).Status.Kind), dI ((t7.2.2.2.2.2.2.1).Status.N), dS ((t7.2.2.2.2.2.2.1).Status.S), dM (((t7.2.2.2.2.2.2.1).Status.List_).map eTValue), dM (((t7.2.2.2.2.2.2.1).Status.Fields).map eTField)])]⟩) ?_ ?_
    ·have h := ho
     clear ho
     refine ww ?_
     refine guardSh h (fun g9 h => ?_) (fun g9 h => ?_)
     ·refine ww ?_
      cases h
      exact eM [some 0, some 4, some 1, some 2, some 3, some 5] rfl
     ·refine ww ?_
      refine guardSh h (fun g10 h => ?_) (fun g10 h => ?_)
      ·refine ww ?_
       cases h
       exact eM [some 0, some 4, some 1, some 2, some 3, some 5] rfl
      ·refine ww ?_
       refine guardSh h (fun g11 h => ?_) (fun g11 h => ?_)
       ·refine ww ?_
        cases h
        exact eM [some 0, some 4, some 1, some 2, some 3, some 5] rfl
       ·refine ww ?_
        refine guardSh h (fun g12 h => ?_) (fun g12 h => ?_)
        ·refine ww ?_
         obtain ⟨t13, ht13, h⟩ := bi h
         refine callX_bor (F11_ok ht13) (by simp only [borAs, bors, hp, List.getElem?_cons_zero, List.getElem?_cons_succ, Option.join_some, List.drop_zero, bor_full', true_and, Nat.zero_add, List.length_map, Nat.le_refl, nrm, List.length_cons, List.length_nil, Nat.reduceAdd, Nat.reduceLeDiff, List.take_succ_cons, List.take_zero, List.take_nil, List.map_cons, List.map_nil, List.length_set, EE.down]) rfl ?_
         refine ww ?_
         cases h
         exact eM [some 0, some 4, some 1, some 2, some 3, some 5] rfl
        ·refine ww ?_
         cases h
         exact eM [some 0, some 4, some 1, some 2, some 3, some 5] rfl
    ·rintro _ rfl
     clear ho
     refine ww ?_
     refine condBh h (fun c14 h => ?_) (fun c14 h => ?_)
     ·refine ww ?_
      obtain ⟨fh0o5, hfh0o5, rfl⟩ := Option.map_eq_some_iff.1 h
      have h := hfh0o5.trans h0o5
      cases h
      exact eF []
     ·refine ww ?_
      obtain ⟨o15, ho, h⟩ := bi h
      refine cutS (fun s => s = ⟨[(0, .one (.c (dM (x0.map eTOp)))), (3, .one (.c (.pt 0 0))), (4, .one (.c (dI ((o5_6 : Int))))), (5, .one (.c (.pt 1 0))), (6, .one (.c (.pt 5 0))), (79, .one (.c (dB o15)))], [some (.box [dI o5_0, dI o5_1, dI o5_2, dM (o5_3.map eObject), dM (o5_4.map eObject), dM (o5_5.map eChange)]), some (.box [dI t7.1, dI t7.2.1, dI t7.2.2.1, .own 2 0 0 (t7.2.2.2.1.length) none, .own 3 0 0 (t7.2.2.2.2.1.length) none, .own 4 0 0 (t7.2.2.2.2.2.1.length) none]), some (.arr 0 23 (t7.2.2.2.1.map eObject)), some (.arr 0 23 (t7.2.2.2.2.1.map eObject)), some (.arr 0 25 (t7.2.2.2.2.2.1.map eChange)), some (.box [dS ((t7.2.2.2.2.2.2.1).Meta.Kind), dS ((t7.2.2.2.2.2.2.1).Meta.Namespace), dS ((t7.2.2.2.2.2.2.1).Meta.Name), dI ((t7.2.2.2.2.2.2.1).Meta.Uid), dI ((t7.2.2.2.2.2.2.1).Meta.Version), dI ((t7.2.2.2.2.2.2.1).Meta.Generation), dI ((t7.2.2.2.2.2.2.1).Meta.Created), dB ((t7.2.2.2.2.2.2.1).Meta.Deleting), dI ((t7.2.2.2.2.2.2.1).Meta.DeleteAt), dM (((t7.2.2.2.2.2.2.1).Meta.Labels).map eLabel), dM (((t7.2.2.2.2.2.2.1).Meta.Owners).map eOwner), dM (((t7.2.2.2.2.2.2.1).Meta.Finalizers).map eS), dM (((t7.2.2.2.2.2.2.1).Meta.Managers).map eManager), dI ((t7.2.2.2.2.2.2.1).Spec.Kind), dI ((t7.2.2.2.2.2.2.1).Spec.N), dS ((t7.2.2.2.2.2.2.1).Spec.S), dM (((t7.2.2.2.2.2.2.1).Spec.List_).map eTValue), dM (((t7.2.2.2.2.2.2.1).Spec.Fields).map eTField), dI ((t7.2.2.2.2.2.2.1).Status.Kind), dI ((t7.2.2.2.2.2.2.1).Status.N), dS ((t7.2.2.2.2.2.2.1).Status.S), dM (((t7.2.2.2.2.2.2.1).Status.List_).map eTValue), dM (((t7.2.2.2.2.2.2.1).Status.Fields).map eTField)])]⟩) ?_ ?_
      ·have h := ho
       clear ho
       refine ww ?_
       refine guardSh h (fun g16 h => ?_) (fun g16 h => ?_)
       ·refine ww ?_
        refine guardSh h (fun g17 h => ?_) (fun g17 h => ?_)
        ·refine ww ?_
         cases h
         exact eM [some 0, some 1, some 2, some 3, some 4, some 5] rfl
        ·refine ww ?_
         cases h
         exact eM [some 0, some 1, some 2, some 3, some 4, some 5] rfl
       ·refine ww ?_
        cases h
        exact eM [some 0, some 1, some 2, some 3, some 4, some 5] rfl
      ·rintro _ rfl
       clear ho
       refine ww ?_
       refine condBh h (fun c18 h => ?_) (fun c18 h => ?_)
       ·refine ww ?_
        obtain ⟨fh0o5, hfh0o5, rfl⟩ := Option.map_eq_some_iff.1 h
        have h := hfh0o5.trans h0o5
        cases h
        exact eF []
       ·refine ww ?_
        obtain ⟨o19, ho, h⟩ := bi h
        refine cutS (fun s => s = ⟨[(0, .one (.c (dM (x0.map eTOp)))), (3, .one (.c (.pt 0 0))), (4, .one (.c (dI ((o5_6 : Int))))), (5, .one (.c (.pt 1 0))), (100, .one (.c (dB o19)))], [some (.box [dI o5_0, dI o5_1, dI o5_2, dM (o5_3.map eObject), dM (o5_4.map eObject), dM (o5_5.map eChange)]), some (.box [dI t7.1, dI t7.2.1, dI t7.2.2.1, .own 2 0 0 (t7.2.2.2.1.length) none, .own 3 0 0 (t7.2.2.2.2.1.length) none, .own 4 0 0 (t7.2.2.2.2.2.1.length) none]), some (.arr 0 23 (t7.2.2.2.1.map eObject)), some (.arr 0 23 (t7.2.2.2.2.1.map eObject)), some (.arr 0 25 (t7.2.2.2.2.2.1.map eChange))]⟩) ?_ ?_
        ·have h := ho
         clear ho
         refine ww ?_
         refine guardSh h (fun g20 h => ?_) (fun g20 h => ?_)
         ·refine ww ?_
          refine guardSh h (fun g21 h => ?_) (fun g21 h => ?_)
          ·refine ww ?_
           cases h
           exact eM [some 0, some 1, some 2, some 3, some 4] rfl
          ·refine ww ?_
           cases h
           exact eM [some 0, some 1, some 2, some 3, some 4] rfl
         ·refine ww ?_
          cases h
          exact eM [some 0, some 1, some 2, some 3, some 4] rfl
        ·rintro _ rfl
         clear ho
         refine ww ?_
         refine condBh h (fun c22 h => ?_) (fun c22 h => ?_)
         ·refine ww ?_
          obtain ⟨fh0o5, hfh0o5, rfl⟩ := Option.map_eq_some_iff.1 h
          have h := hfh0o5.trans h0o5
          cases h
          exact eF []
         ·refine ww ?_
          rw [wrapN (by omega)]
          exact eL' (x0.length - (o5_6 + 1)) [some 0] ⟨o5_6 + 1, t7.1, t7.2.1, t7.2.2.1, t7.2.2.2.1, t7.2.2.2.2.1, t7.2.2.2.2.2.1, ⟨by omega, rfl⟩, rfl, h⟩ (by omega)
   ·rw [countN (show ¬ ((o5_6 : Int) < (x0.length : Int)) from c6), F3_l5] at h
    refine ww ?_
    cases h
    exact eM [some 0] ⟨_, rfl, rfl⟩
  ·rintro _ ⟨po5, rfl, rfl⟩
   clear ho
   dsimp only at h
   refine ww ?_
   obtain ⟨o24, ho, h⟩ := bi h
   refine cutS (fun s => ∃ po24, o24 = Sum.inr po24 ∧ s = ⟨[], []⟩) ?_ ?_
   ·have h0o24 := h
    have h := ho
    clear ho
    obtain ⟨_, hk, h⟩ := bi h
    have hk := ck_some hk
    refine ww ?_
    refine bL (fun j s => ∃ (o24_0 : Nat), (o24_0 ≤ (((po5).Objects)).length ∧ j = (((po5).Objects)).length - o24_0) ∧ s = ⟨[(3, .one (.c (.pt 0 0))), (8, .one (.c (dI ((o24_0 : Int)))))], [some (.box [dI ((po5).Rev), dI ((po5).Floor), dI ((po5).NextUid), dM (((po5).Base).map eObject), dM (((po5).Objects).map eObject), dM (((po5).History).map eChange)])]⟩ ∧ F3_l24 po5 ((((po5).Objects)).drop o24_0) o24_0 = some o24) ((((po5).Objects)).length - 0) [some 0] ⟨0, ⟨hk.1, rfl⟩, rfl, h⟩ ?_
    rintro _ _ ⟨o24_0, ⟨hi, rfl⟩, rfl, h⟩
    refine ww ?_
    refine condS (fun c25 => ?_) (fun c25 => ?_)
    ·obtain ⟨xo24, hxo24, hd⟩ := countY (show (o24_0 : Int) < ((((po5).Objects)).length : Int) from c25)
     rw [hd, F3_l24] at h
     refine ww ?_
     obtain ⟨y26, hy26, h⟩ := bi h
     refine t_idxF (enc := eObject) (xs := ((po5).Objects)) rfl rfl hy26 rfl ?_
     refine ww ?_
     obtain ⟨t27, ht27, h⟩ := bi h
     refine cN [] (F12_ok ht27) trivial ?_
     refine ww ?_
     refine kD_new (by simp [wrs, allW, hset]) ?_
     refine ww ?_
     refine kD_new (by simp [wrs, allW, hset]) ?_
     refine ww ?_
     refine kD_new (by simp [wrs, allW, hset]) ?_
     refine ww ?_
     obtain ⟨o28, ho, h⟩ := bi h
     refine cutS (fun s => s = ⟨[(3, .one (.c (.pt 0 0))), (8, .one (.c (dI ((o24_0 : Int))))), (137, .one (.c (dB o28)))], [some (.box [dI ((po5).Rev), dI ((po5).Floor), dI ((po5).NextUid), dM (((po5).Base).map eObject), dM (((po5).Objects).map eObject), dM (((po5).History).map eChange)])]⟩) ?_ ?_
     ·have h := ho
      clear ho
      refine ww ?_
      refine guardDh h (fun g29 h => ?_) (fun g29 h => ?_)
      ·refine ww ?_
       cases h
       exact eM [some 0] rfl
      ·refine ww ?_
       obtain ⟨t30, ht30, h⟩ := bi h
       refine callX_bor (F11_ok ht30) (by simp only [borAs, bors, hp, List.getElem?_cons_zero, List.getElem?_cons_succ, Option.join_some, List.drop_zero, bor_full', true_and, Nat.zero_add, List.length_map, Nat.le_refl, nrm, List.length_cons, List.length_nil, Nat.reduceAdd, Nat.reduceLeDiff, List.take_succ_cons, List.take_zero, List.take_nil, List.map_cons, List.map_nil, List.length_set, EE.down]) rfl ?_
       refine ww ?_
       refine guardDBh h (fun g31 h => ?_) (fun g31 h => ?_)
       ·refine ww ?_
        cases h
        exact eM [some 0] rfl
       ·refine ww ?_
        refine t_idxF (enc := eObject) (xs := ((po5).Objects)) rfl rfl hy26 rfl ?_
        refine ww ?_
        obtain ⟨t32, ht32, h⟩ := bi h
        refine cN [] (F13_ok ht32) trivial ?_
        refine ww ?_
        cases h
        exact eM [some 0] rfl
     ·rintro _ rfl
      clear ho
      refine ww ?_
      refine condBh h (fun c33 h => ?_) (fun c33 h => ?_)
      ·refine ww ?_
       obtain ⟨fh0o24, hfh0o24, rfl⟩ := Option.map_eq_some_iff.1 h
       have h := hfh0o24.trans h0o24
       cases h
       exact eF []
      ·refine ww ?_
       rw [wrapN (by omega)]
       exact eL' ((((po5).Objects)).length - (o24_0 + 1)) [some 0] ⟨o24_0 + 1, ⟨by omega, rfl⟩, rfl, h⟩ (by omega)
    ·rw [countN (show ¬ ((o24_0 : Int) < ((((po5).Objects)).length : Int)) from c25), F3_l24] at h
     refine ww ?_
     cases h
     exact eM [] ⟨_, rfl, rfl⟩
   ·rintro _ ⟨po24, rfl, rfl⟩
    clear ho
    dsimp only at h
    refine ww ?_
    obtain ⟨t35, ht35, h⟩ := bi h
    refine cN [] (F8_ok ht35) trivial ?_
    refine ww ?_
    cases h
    exact eF []

end Go.Proofs.Ytbopaemngpbdgaa
