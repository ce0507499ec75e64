/- Each Go function as a function over typed data, and its walk. -/
import Derived.Test.YtdpbdbclninjaaaX2
namespace Go.Proofs.Ytdpbdbclninjaaa
open Go Go.Fw
set_option maxRecDepth 100000
set_option maxHeartbeats 4000000
set_option linter.unusedSimpArgs false
set_option linter.unusedVariables false
/- orchestrator/orchestratorlaw42.SchedqueueFair -/
def F5_l11 (o7_1 : List WorkItem) (xo7 : Act) : List WorkItem → Nat → Int → Option (Int)
  | [], o11_1, o11_0 => some o11_0
  | xo11 :: xs, o11_1, o11_0 => (((rdI o7_1 ((o11_1 : Int))).bind fun y14 => (if y14.Key = xo7.Key then some ((o11_1 : Int)) else some o11_0)).bind fun o13 => F5_l11 o7_1 xo7 xs (o11_1 + 1) o13)
def F5_l7  : List Act → Nat → SchedQueue → (List WorkItem) → Option (SchedQueue × (List WorkItem))
  | [], o7_2, o7_0, o7_1 => some (((⟨(o7_0).Waiting, (o7_0).Active, (o7_0).Stuck, (o7_0).Backoff, (o7_0).Retries, (o7_0).Cycle⟩ : SchedQueue), o7_1))
  | xo7 :: xs, o7_2, o7_0, o7_1 => (((F15 ((⟨(o7_0).Waiting, (o7_0).Active, (o7_0).Stuck, (o7_0).Backoff, (o7_0).Retries, (o7_0).Cycle⟩ : SchedQueue)) xo7.Key xo7.Priority).bind fun t10 => (((ck (0 ≤ o7_1.length ∧ o7_1.length ≤ 4294967290)).bind fun u16 => F5_l11 o7_1 xo7 o7_1 0 ((-1))).bind fun o11 => (((if 0 ≤ o11 then (rdI o7_1 o11).bind fun y19 => some (decide (y19.At = xo7.Priority)) else some false)).bind fun o17 => (if o17 = true then some (((⟨t10.1, t10.2.1, t10.2.2.1, t10.2.2.2.1, t10.2.2.2.2, ((⟨(o7_0).Waiting, (o7_0).Active, (o7_0).Stuck, (o7_0).Backoff, (o7_0).Retries, (o7_0).Cycle⟩ : SchedQueue)).Cycle⟩ : SchedQueue), o7_1)) else (((if 0 ≤ o11 then (F16 o7_1 o11).bind fun t23 => some t23 else some o7_1)).bind fun o21 => (apI o21 ([(⟨xo7.Key, xo7.Priority⟩ : WorkItem)])).bind fun a24 => some (((⟨t10.1, t10.2.1, t10.2.2.1, t10.2.2.2.1, t10.2.2.2.2, ((⟨(o7_0).Waiting, (o7_0).Active, (o7_0).Stuck, (o7_0).Backoff, (o7_0).Retries, (o7_0).Cycle⟩ : SchedQueue)).Cycle⟩ : SchedQueue), a24))))))).bind fun o9 => F5_l7  xs (o7_2 + 1) ((⟨(o9.1).Waiting, (o9.1).Active, (o9.1).Stuck, (o9.1).Backoff, (o9.1).Retries, (o9.1).Cycle⟩ : SchedQueue)) o9.2)
def F5_l28 (o26_1 : List WorkItem) : List WorkItem → Nat → Int → Option (Int)
  | [], o28_1, o28_0 => some o28_0
  | xo28 :: xs, o28_1, o28_0 => (((rdI o26_1 ((o28_1 : Int))).bind fun y31 => (rdI o26_1 o28_0).bind fun y32 => (if y32.At < y31.At then some ((o28_1 : Int)) else some o28_0)).bind fun o30 => F5_l28 o26_1 xs (o28_1 + 1) o30)
def F5_l26  : Nat → SchedQueue → (List WorkItem) → Option ((Bool) ⊕ (SchedQueue))
  | 0, _, _ => none
  | k + 1, o26_0, o26_1 => (if 0 < (o26_1.length : Int) then (((ck (0 ≤ o26_1.length ∧ o26_1.length ≤ 4294967290)).bind fun u34 => F5_l28 o26_1 o26_1 0 0).bind fun o28 => (F17 ((⟨(o26_0).Waiting, (o26_0).Active, (o26_0).Stuck, (o26_0).Backoff, (o26_0).Retries, (o26_0).Cycle⟩ : SchedQueue))).bind fun t35 => (((if (nb t35.2.2.2.2.2.2.2) = true then some true else (rdI o26_1 o28).bind fun y38 => (if ¬ (t35.2.2.2.2.2.2.1 = y38.Key) then some true else some (decide (¬ (t35.2.2.2.2.2.1 = (IntKind.i64.wrap (((o26_0).Cycle) + 1)))))))).bind fun o36 => (if o36 = true then (some false).map Sum.inl else (F16 o26_1 o28).bind fun t41 => F5_l26  k ((⟨t35.1, t35.2.1, t35.2.2.1, t35.2.2.2.1, t35.2.2.2.2.1, t35.2.2.2.2.2.1⟩ : SchedQueue)) t41))) else some (Sum.inr ((⟨(o26_0).Waiting, (o26_0).Active, (o26_0).Stuck, (o26_0).Backoff, (o26_0).Retries, (o26_0).Cycle⟩ : SchedQueue))))
def F5 (x0 : (List Act)) : Option (Bool) := (((F7 x0).bind fun t2 => (if (nb t2) = true then some true else some (decide (40 < (x0.length : Int))))).bind fun o1 => (if o1 = true then (F8).bind fun t5 => some t5 else (F9).bind fun t6 => (((ck (0 ≤ x0.length ∧ x0.length ≤ 4294967290)).bind fun u25 => F5_l7 x0 0 ((⟨[], [], [], [], [], 0⟩ : SchedQueue)) ([])).bind fun o7 => ((F5_l26 1099511627776 ((⟨(o7.1).Waiting, (o7.1).Active, (o7.1).Stuck, (o7.1).Backoff, (o7.1).Retries, (o7.1).Cycle⟩ : SchedQueue)) o7.2).bind fun o26 => match o26 with | Sum.inl f => some f | Sum.inr po26 => (F17 ((⟨(po26).Waiting, (po26).Active, (po26).Stuck, (po26).Backoff, (po26).Retries, (po26).Cycle⟩ : SchedQueue))).bind fun t42 => (((if (nb t42.2.2.2.2.2.2.2) = true then (F8).bind fun t45 => some t45 else some false)).bind fun o43 => some o43)))))
def a5 : AFn := ⟨141, [(.tmp 2)],
 (.seq (.reg [⟨(some 2), none, .mv (kB false), [], none⟩])
 (.seq (.seq (.sem (.reg [⟨(some 19), none, .mv (.t 0), [], none⟩,
   ⟨(some 20), none, .call 7 [(.t 19)], [], none⟩,
   ⟨(some 21), none, .not (.t 20), [], none⟩,
   ⟨(some 22), none, .mv (.t 21), [], none⟩,
   ⟨(some 23), (some (22, false)), .mv (.t 0), [], none⟩,
   ⟨(some 24), (some (22, false)), .len (.t 23), [], none⟩,
   ⟨(some 25), (some (22, false)), .bin .gtr (.t 24) (kI 40), [], none⟩,
   ⟨(some 26), none, .pick (.t 22) (kB true) (.t 25), [], none⟩]))
 (.cond (.t 26)
 (.seq (.reg [⟨(some 27), none, .call 8 [], [], none⟩,
   ⟨(some 2), none, .mv (.t 27), [], none⟩])
 .ret)
 .skip))
 (.seq (.reg [⟨(some 28), none, .call 9 [], [], none⟩,
   ⟨(some 3), none, .zbox [.d (.v (.slice none 0 0)), .d (.v (.slice none 0 0)), .d (.v (.slice none 0 0)), .d (.v (.slice none 0 0)), .d (.v (.slice none 0 0)), .d (.v (.int .i64 0))], [], none⟩,
   ⟨none, none, .store 6 (.t 3) (.t 28), [], none⟩])
 (.seq (.reg [⟨(some 4), none, .mv kN, [], none⟩])
 (.seq (.seq (.reg [⟨(some 29), none, .mv (.t 0), [], none⟩,
   ⟨(some 30), none, .len (.t 29), [], none⟩,
   ⟨(some 31), none, .mv (kI 0), [], none⟩])
 (.sem (.block 0 (.loop (.seq (.reg [⟨(some 32), none, .bin .lss (.t 31) (.t 30), [], none⟩])
 (.seq (.cond (.t 32)
 .skip
 (.exit 0))
 (.seq (.sem (.block 1 (.seq (.reg [⟨(some 33), none, .indexA 4 (.t 29) (.t 31), [], none⟩,
   ⟨(some 34), none, .load (some 4) (.t 33), [], none⟩,
   ⟨(some 6), none, .zbox [.d (.v (.int .u8 0)), .d (.v (.string ⟨#[]⟩)), .d (.v (.int .i64 0)), .d (.v (.int .i64 0))], [], none⟩,
   ⟨none, none, .store 4 (.t 6) (.t 34), [], none⟩])
 (.seq (.reg [⟨(some 35), none, .load (some 6) (.t 3), [], none⟩,
   ⟨(some 36), none, .fieldA 1 (.t 6), [], none⟩,
   ⟨(some 37), none, .load none (.t 36), [], none⟩,
   ⟨(some 38), none, .fieldA 2 (.t 6), [], none⟩,
   ⟨(some 39), none, .load none (.t 38), [], none⟩,
   ⟨(some 40), none, .call 15 [(.t 35), (.t 37), (.t 39)], [], none⟩,
   ⟨none, none, .store 6 (.t 3) (.t 40), [], none⟩])
 (.seq (.reg [⟨(some 7), none, .mv (kI (-1)), [], none⟩])
 (.seq (.seq (.reg [⟨(some 41), none, .mv (.t 4), [], none⟩,
   ⟨(some 42), none, .len (.t 41), [], none⟩,
   ⟨(some 43), none, .mv (kI 0), [], none⟩])
 (.sem (.block 2 (.loop (.seq (.reg [⟨(some 44), none, .bin .lss (.t 43) (.t 42), [], none⟩])
 (.seq (.cond (.t 44)
 .skip
 (.exit 2))
 (.seq (.sem (.block 3 (.seq (.reg [⟨(some 45), none, .mv (.t 43), [], none⟩,
   ⟨(some 46), none, .indexA 2 (.t 41) (.t 43), [], none⟩,
   ⟨(some 47), none, .load (some 2) (.t 46), [], none⟩,
   ⟨(some 9), none, .zbox [.d (.v (.string ⟨#[]⟩)), .d (.v (.int .i64 0))], [], none⟩,
   ⟨(some 8), none, .mv (.t 45), [], none⟩,
   ⟨none, none, .store 2 (.t 9) (.t 47), [], none⟩])
 (.seq (.reg [⟨(some 48), none, .fieldA 0 (.t 9), [], none⟩,
   ⟨(some 49), none, .load none (.t 48), [], none⟩,
   ⟨(some 50), none, .fieldA 1 (.t 6), [], none⟩,
   ⟨(some 51), none, .load none (.t 50), [], none⟩,
   ⟨(some 52), none, .bin .eql (.t 49) (.t 51), [], none⟩])
 (.cond (.t 52)
 (.reg [⟨(some 53), none, .mv (.t 8), [], none⟩,
   ⟨(some 7), none, .mv (.t 53), [], none⟩])
 .skip)))))
 (.reg [⟨(some 54), none, .bin .add (.t 43) (kI 1), [], none⟩,
   ⟨(some 43), none, .mv (.t 54), [], none⟩]))))))))
 (.seq (.seq (.sem (.regd [⟨(some 55), none, .mv (.t 7), [], none⟩,
   ⟨(some 56), none, .bin .geq (.t 55) (kI 0), [0], none⟩,
   ⟨(some 57), none, .mv (.t 56), [0, 1], none⟩,
   ⟨(some 58), (some (57, true)), .mv (.t 4), [0, 1, 2], none⟩,
   ⟨(some 59), (some (57, true)), .mv (.t 7), [0, 1, 2], none⟩,
   ⟨(some 60), (some (57, true)), .indexA 2 (.t 58) (.t 59), [0, 1, 2, 3, 4], none⟩,
   ⟨(some 61), (some (57, true)), .fieldA 1 (.t 60), [0, 1, 2, 3, 4, 5], none⟩,
   ⟨(some 62), (some (57, true)), .load none (.t 61), [0, 1, 2, 3, 4, 5, 6], none⟩,
   ⟨(some 63), (some (57, true)), .fieldA 2 (.t 6), [0, 1, 2], none⟩,
   ⟨(some 64), (some (57, true)), .load none (.t 63), [0, 1, 2, 8], none⟩,
   ⟨(some 65), (some (57, true)), .bin .eql (.t 62) (.t 64), [0, 1, 2, 3, 4, 5, 6, 7, 8, 9], none⟩,
   ⟨(some 66), none, .pick (.t 57) (.t 65) (kB false), [0, 1, 2, 3, 4, 5, 6, 7, 8, 9, 10], (some [])⟩]))
 (.cond (.t 66)
 (.exit 1)
 .skip))
 (.seq (.sem (.seq (.reg [⟨(some 67), none, .mv (.t 7), [], none⟩,
   ⟨(some 68), none, .bin .geq (.t 67) (kI 0), [], none⟩])
 (.cond (.t 68)
 (.reg [⟨(some 69), none, .mv (.t 4), [], none⟩,
   ⟨(some 70), none, .mv (.t 7), [], none⟩,
   ⟨(some 71), none, .call 16 [(.t 69), (.t 70)], [], none⟩,
   ⟨(some 4), none, .mv (.t 71), [], none⟩])
 .skip)))
 (.reg [⟨(some 72), none, .mv (.t 4), [], none⟩,
   ⟨(some 73), none, .fieldA 1 (.t 6), [], none⟩,
   ⟨(some 74), none, .load none (.t 73), [], none⟩,
   ⟨(some 75), none, .fieldA 2 (.t 6), [], none⟩,
   ⟨(some 76), none, .load none (.t 75), [], none⟩,
   ⟨(some 77), none, .build [.d (.v (.string ⟨#[]⟩)), .d (.v (.int .i64 0))] [(0, 1, (.t 74)), (1, 1, (.t 76))], [], none⟩,
   ⟨(some 78), none, .bslice 2 [(.t 77)], [], none⟩,
   ⟨(some 79), none, .app 2 24 (.t 72) (.t 78), [], none⟩,
   ⟨(some 4), none, .mv (.t 79), [], none⟩])))))))))
 (.reg [⟨(some 80), none, .bin .add (.t 31) (kI 1), [], none⟩,
   ⟨(some 31), none, .mv (.t 80), [], none⟩]))))))))
 (.seq (.sem (.block 4 (.loop (.seq (.seq (.reg [⟨(some 81), none, .mv (.t 4), [], none⟩,
   ⟨(some 82), none, .len (.t 81), [], none⟩,
   ⟨(some 83), none, .bin .gtr (.t 82) (kI 0), [], none⟩])
 (.cond (.t 83)
 .skip
 (.exit 4)))
 (.block 5 (.seq (.reg [⟨(some 10), none, .mv (kI 0), [], none⟩])
 (.seq (.seq (.reg [⟨(some 84), none, .mv (.t 4), [], none⟩,
   ⟨(some 85), none, .len (.t 84), [], none⟩,
   ⟨(some 86), none, .mv (kI 0), [], none⟩])
 (.sem (.block 6 (.loop (.seq (.reg [⟨(some 87), none, .bin .lss (.t 86) (.t 85), [], none⟩])
 (.seq (.cond (.t 87)
 .skip
 (.exit 6))
 (.seq (.sem (.block 7 (.seq (.reg [⟨(some 88), none, .mv (.t 86), [], none⟩,
   ⟨(some 89), none, .indexA 2 (.t 84) (.t 86), [], none⟩,
   ⟨(some 90), none, .load (some 2) (.t 89), [], none⟩,
   ⟨(some 12), none, .zbox [.d (.v (.string ⟨#[]⟩)), .d (.v (.int .i64 0))], [], none⟩,
   ⟨(some 11), none, .mv (.t 88), [], none⟩,
   ⟨none, none, .store 2 (.t 12) (.t 90), [], none⟩])
 (.seq (.regd [⟨(some 91), none, .fieldA 1 (.t 12), [], none⟩,
   ⟨(some 92), none, .load none (.t 91), [0], none⟩,
   ⟨(some 93), none, .mv (.t 4), [], none⟩,
   ⟨(some 94), none, .mv (.t 10), [], none⟩,
   ⟨(some 95), none, .indexA 2 (.t 93) (.t 94), [2, 3], none⟩,
   ⟨(some 96), none, .fieldA 1 (.t 95), [2, 3, 4], none⟩,
   ⟨(some 97), none, .load none (.t 96), [2, 3, 4, 5], none⟩,
   ⟨(some 98), none, .bin .gtr (.t 92) (.t 97), [0, 1, 2, 3, 4, 5, 6], none⟩])
 (.cond (.t 98)
 (.reg [⟨(some 99), none, .mv (.t 11), [], none⟩,
   ⟨(some 10), none, .mv (.t 99), [], none⟩])
 .skip)))))
 (.reg [⟨(some 100), none, .bin .add (.t 86) (kI 1), [], none⟩,
   ⟨(some 86), none, .mv (.t 100), [], none⟩]))))))))
 (.seq (.reg [⟨(some 102), none, .load (some 6) (.t 3), [], none⟩,
   ⟨(some 103), none, .call 17 [(.t 102)], [], none⟩,
   ⟨(some 101), none, .mv (.t 103), [], none⟩,
   ⟨(some 104), none, .ext (.t 101) 0, [], none⟩,
   ⟨(some 105), none, .ext (.t 101) 1, [], none⟩,
   ⟨(some 106), none, .ext (.t 101) 2, [], none⟩,
   ⟨(some 13), none, .zbox [.d (.v (.slice none 0 0)), .d (.v (.slice none 0 0)), .d (.v (.slice none 0 0)), .d (.v (.slice none 0 0)), .d (.v (.slice none 0 0)), .d (.v (.int .i64 0))], [], none⟩,
   ⟨none, none, .store 6 (.t 13) (.t 104), [], none⟩,
   ⟨(some 14), none, .mv (.t 105), [], none⟩,
   ⟨(some 15), none, .mv (.t 106), [], none⟩])
 (.seq (.seq (.sem (.reg [⟨(some 107), none, .mv (.t 15), [], none⟩,
   ⟨(some 108), none, .not (.t 107), [], none⟩,
   ⟨(some 109), none, .mv (.t 108), [], none⟩,
   ⟨(some 110), (some (109, false)), .mv (.t 14), [], none⟩,
   ⟨(some 111), (some (109, false)), .mv (.t 4), [], none⟩,
   ⟨(some 112), (some (109, false)), .mv (.t 10), [], none⟩,
   ⟨(some 113), (some (109, false)), .indexA 2 (.t 111) (.t 112), [], none⟩,
   ⟨(some 114), (some (109, false)), .fieldA 0 (.t 113), [], none⟩,
   ⟨(some 115), (some (109, false)), .load none (.t 114), [], none⟩,
   ⟨(some 116), (some (109, false)), .bin .neq (.t 110) (.t 115), [], none⟩,
   ⟨(some 117), none, .pick (.t 109) (kB true) (.t 116), [], none⟩,
   ⟨(some 118), none, .mv (.t 117), [], none⟩,
   ⟨(some 119), (some (118, false)), .fieldA 5 (.t 13), [], none⟩,
   ⟨(some 120), (some (118, false)), .load none (.t 119), [], none⟩,
   ⟨(some 121), (some (118, false)), .fieldA 5 (.t 3), [], none⟩,
   ⟨(some 122), (some (118, false)), .load none (.t 121), [], none⟩,
   ⟨(some 123), (some (118, false)), .bin .add (.t 122) (kI 1), [], none⟩,
   ⟨(some 124), (some (118, false)), .bin .neq (.t 120) (.t 123), [], none⟩,
   ⟨(some 125), none, .pick (.t 118) (kB true) (.t 124), [], none⟩]))
 (.cond (.t 125)
 (.seq (.reg [⟨(some 2), none, .mv (kB false), [], none⟩])
 .ret)
 .skip))
 (.seq (.reg [⟨(some 126), none, .load (some 6) (.t 13), [], none⟩,
   ⟨none, none, .store 6 (.t 3) (.t 126), [], (some [13])⟩])
 (.reg [⟨(some 127), none, .mv (.t 4), [], none⟩,
   ⟨(some 128), none, .mv (.t 10), [], none⟩,
   ⟨(some 129), none, .call 16 [(.t 127), (.t 128)], [], none⟩,
   ⟨(some 4), none, .mv (.t 129), [], none⟩])))))))))))
 (.seq (.reg [⟨(some 131), none, .load (some 6) (.t 3), [], none⟩,
   ⟨(some 132), none, .call 17 [(.t 131)], [], none⟩,
   ⟨(some 130), none, .mv (.t 132), [], none⟩,
   ⟨(some 133), none, .ext (.t 130) 0, [], none⟩,
   ⟨(some 134), none, .ext (.t 130) 1, [], none⟩,
   ⟨(some 135), none, .ext (.t 130) 2, [], none⟩,
   ⟨(some 16), none, .zbox [.d (.v (.slice none 0 0)), .d (.v (.slice none 0 0)), .d (.v (.slice none 0 0)), .d (.v (.slice none 0 0)), .d (.v (.slice none 0 0)), .d (.v (.int .i64 0))], [], none⟩,
   ⟨none, none, .store 6 (.t 16) (.t 133), [], none⟩,
   ⟨(some 17), none, .mv (.t 134), [], none⟩,
   ⟨(some 18), none, .mv (.t 135), [], none⟩])
 (.seq (.sem (.reg [⟨(some 136), none, .mv (.t 18), [], none⟩,
   ⟨(some 137), none, .not (.t 136), [], none⟩,
   ⟨(some 138), none, .mv (.t 137), [], none⟩,
   ⟨(some 139), (some (138, true)), .call 8 [], [], none⟩,
   ⟨(some 140), none, .pick (.t 138) (.t 139) (kB false), [], none⟩,
   ⟨(some 2), none, .mv (.t 140), [], none⟩]))
 .ret))))))))⟩
theorem a5_ok : afn Try.prog 5 = some a5.er := by kernel_rfl
theorem F5_ok {x0 : (List Act)} {r : Bool} (h : F5 x0 = some r) : CallD Try.prog 5 [.c (.d (.sl (x0.map eAct)))] [] (tupV [.c (.d (.v (.bool r)))]) [] := by
  refine callS a5_ok (by simp [a5]) ?_
  rw [F5] at h
  simp only [a5, VW.down, Nat.reduceEqDiff, reduceCtorEq, Nat.reduceAdd, Nat.reduceLeDiff, Nat.reduceLT, Nat.reduceBEq, Nat.reduceSub, EE.down]
  obtain ⟨o1, ho, h⟩ := Option.bind_eq_some_iff.1 h
  refine cutS (fun s => s = ⟨[(0, .one (.c (.d (.sl (x0.map eAct))))), (26, .one (.c (.d (.v (.bool o1)))))], []⟩) ?_ ?_
  · have h := ho
    clear ho
    simp only [VW.down, Nat.reduceEqDiff, reduceCtorEq, Nat.reduceAdd, Nat.reduceLeDiff, Nat.reduceLT, Nat.reduceBEq, Nat.reduceSub, EE.down]
    obtain ⟨t2, ht2, h⟩ := Option.bind_eq_some_iff.1 h
    refine callX_n [] (F7_ok ht2) ?_ ?_ ?_ ?_ ?_ ?_
    · first | rfl | simp [nrmA, nrmC, nrm, A1.ren, C.ren, rn, List.length_set]
    · simp [liveAll, A1.live, C.live]
    · rfl
    · decide
    · exact trivial
    simp only [VW.down, Nat.reduceEqDiff, reduceCtorEq, Nat.reduceAdd, Nat.reduceLeDiff, Nat.reduceLT, Nat.reduceBEq, Nat.reduceSub, EE.down]
    refine guardSB (fun g3 => ?_) (fun g3 => ?_)
    · have h := (if_pos g3).symm.trans h
      simp only [VW.down, Nat.reduceEqDiff, reduceCtorEq, Nat.reduceAdd, Nat.reduceLeDiff, Nat.reduceLT, Nat.reduceBEq, Nat.reduceSub, EE.down]
      obtain rfl := Option.some.inj h
      exact eM [] rfl
    · have h := (if_neg g3).symm.trans h
      simp only [VW.down, Nat.reduceEqDiff, reduceCtorEq, Nat.reduceAdd, Nat.reduceLeDiff, Nat.reduceLT, Nat.reduceBEq, Nat.reduceSub, EE.down]
      obtain rfl := Option.some.inj h
      exact eM [] rfl
  · rintro _ rfl
    clear ho
    simp only [VW.down, Nat.reduceEqDiff, reduceCtorEq, Nat.reduceAdd, Nat.reduceLeDiff, Nat.reduceLT, Nat.reduceBEq, Nat.reduceSub, EE.down]
    refine condB (fun c4 => ?_) (fun c4 => ?_)
    · have h := (if_pos c4).symm.trans h
      simp only [VW.down, Nat.reduceEqDiff, reduceCtorEq, Nat.reduceAdd, Nat.reduceLeDiff, Nat.reduceLT, Nat.reduceBEq, Nat.reduceSub, EE.down]
      obtain ⟨t5, ht5, h⟩ := Option.bind_eq_some_iff.1 h
      refine callX_n [] (F8_ok ht5) ?_ ?_ ?_ ?_ ?_ ?_
      · first | rfl | simp [nrmA, nrmC, nrm, A1.ren, C.ren, rn, List.length_set]
      · simp [liveAll, A1.live, C.live]
      · rfl
      · decide
      · exact trivial
      simp only [VW.down, Nat.reduceEqDiff, reduceCtorEq, Nat.reduceAdd, Nat.reduceLeDiff, Nat.reduceLT, Nat.reduceBEq, Nat.reduceSub, EE.down]
      obtain rfl := Option.some.inj h
      exact eF []
    · have h := (if_neg c4).symm.trans h
      simp only [VW.down, Nat.reduceEqDiff, reduceCtorEq, Nat.reduceAdd, Nat.reduceLeDiff, Nat.reduceLT, Nat.reduceBEq, Nat.reduceSub, EE.down]
      obtain ⟨t6, ht6, h⟩ := Option.bind_eq_some_iff.1 h
      refine callX_n [] (F9_ok ht6) ?_ ?_ ?_ ?_ ?_ ?_
      · first | rfl | simp [nrmA, nrmC, nrm, A1.ren, C.ren, rn, List.length_set]
      · simp [liveAll, A1.live, C.live]
      · rfl
      · decide
      · exact trivial
      simp only [VW.down, Nat.reduceEqDiff, reduceCtorEq, Nat.reduceAdd, Nat.reduceLeDiff, Nat.reduceLT, Nat.reduceBEq, Nat.reduceSub, EE.down]
      obtain ⟨o7, ho, h⟩ := Option.bind_eq_some_iff.1 h
      refine cutS (fun s => s = ⟨[(3, .one (.c (.pt 0 0))), (4, .one (.c (.own 1 0 0 (o7.2.length) none)))], [some (.box [.d (.sl (((o7.1).Waiting).map eWorkItem)), .d (.sl (((o7.1).Active).map eWorkItem)), .d (.sl (((o7.1).Stuck).map eWorkItem)), .d (.sl (((o7.1).Backoff).map eWorkItem)), .d (.sl (((o7.1).Retries).map eWorkItem)), .d (.v (.int .i64 ((o7.1).Cycle)))]), some (.arr 0 2 (o7.2.map eWorkItem))]⟩) ?_ ?_
      · have h := ho
        clear ho
        obtain ⟨_, hk, h⟩ := Option.bind_eq_some_iff.1 h
        have hk := ck_some hk
        simp only [VW.down, Nat.reduceEqDiff, reduceCtorEq, Nat.reduceAdd, Nat.reduceLeDiff, Nat.reduceLT, Nat.reduceBEq, Nat.reduceSub, EE.down]
        refine bL (fun j s => ∃ (o7_2 : Nat) (o7_0 : SchedQueue) (o7_1 : List WorkItem), (o7_2 ≤ x0.length ∧ j = x0.length - o7_2) ∧ s = ⟨[(3, .one (.c (.pt 0 0))), (4, .one (.c (.own 1 0 0 (o7_1.length) none))), (29, .one (.c (.d (.sl (x0.map eAct))))), (30, .one (.c (.d (.v (.int .i64 ((x0.length : Int))))))), (31, .one (.c (.d (.v (.int .i64 ((o7_2 : Int)))))))], [some (.box [.d (.sl (((o7_0).Waiting).map eWorkItem)), .d (.sl (((o7_0).Active).map eWorkItem)), .d (.sl (((o7_0).Stuck).map eWorkItem)), .d (.sl (((o7_0).Backoff).map eWorkItem)), .d (.sl (((o7_0).Retries).map eWorkItem)), .d (.v (.int .i64 ((o7_0).Cycle)))]), some (.arr 0 2 (o7_1.map eWorkItem))]⟩ ∧ F5_l7 (x0.drop o7_2) o7_2 o7_0 o7_1 = some o7) (x0.length - 0) [some 0, none] ⟨0, (⟨[], [], [], [], [], 0⟩ : SchedQueue), [], ⟨hk.1, rfl⟩, rfl, h⟩ ?_
        rintro _ _ ⟨o7_2, o7_0, o7_1, ⟨hi, rfl⟩, rfl, h⟩
        simp only [VW.down, Nat.reduceEqDiff, reduceCtorEq, Nat.reduceAdd, Nat.reduceLeDiff, Nat.reduceLT, Nat.reduceBEq, Nat.reduceSub, EE.down]
        refine condS (fun c8 => ?_) (fun c8 => ?_)
        · obtain ⟨xo7, hxo7, hd⟩ := countY c8
          rw [hd, F5_l7] at h
          simp only [VW.down, Nat.reduceEqDiff, reduceCtorEq, Nat.reduceAdd, Nat.reduceLeDiff, Nat.reduceLT, Nat.reduceBEq, Nat.reduceSub, EE.down]
          obtain ⟨o9, ho, h⟩ := Option.bind_eq_some_iff.1 h
          refine cutS (fun s => s = ⟨[(3, .one (.c (.pt 0 0))), (4, .one (.c (.own 1 0 0 (o9.2.length) none))), (29, .one (.c (.d (.sl (x0.map eAct))))), (30, .one (.c (.d (.v (.int .i64 ((x0.length : Int))))))), (31, .one (.c (.d (.v (.int .i64 ((o7_2 : Int)))))))], [some (.box [.d (.sl (((o9.1).Waiting).map eWorkItem)), .d (.sl (((o9.1).Active).map eWorkItem)), .d (.sl (((o9.1).Stuck).map eWorkItem)), .d (.sl (((o9.1).Backoff).map eWorkItem)), .d (.sl (((o9.1).Retries).map eWorkItem)), .d (.v (.int .i64 ((o9.1).Cycle)))]), some (.arr 0 2 (o9.2.map eWorkItem))]⟩) ?_ ?_
          · have h := ho
            clear ho
            simp only [VW.down, Nat.reduceEqDiff, reduceCtorEq, Nat.reduceAdd, Nat.reduceLeDiff, Nat.reduceLT, Nat.reduceBEq, Nat.reduceSub, EE.down]
            refine t_idxF (enc := eAct) (xs := x0) rfl rfl hxo7 rfl ?_
            simp only [VW.down, Nat.reduceEqDiff, reduceCtorEq, Nat.reduceAdd, Nat.reduceLeDiff, Nat.reduceLT, Nat.reduceBEq, Nat.reduceSub, EE.down]
            obtain ⟨t10, ht10, h⟩ := Option.bind_eq_some_iff.1 h
            refine callX_n [] (F15_ok ht10) ?_ ?_ ?_ ?_ ?_ ?_
            · first | rfl | simp [nrmA, nrmC, nrm, A1.ren, C.ren, rn, List.length_set]
            · simp [liveAll, A1.live, C.live]
            · rfl
            · decide
            · exact trivial
            simp only [VW.down, Nat.reduceEqDiff, reduceCtorEq, Nat.reduceAdd, Nat.reduceLeDiff, Nat.reduceLT, Nat.reduceBEq, Nat.reduceSub, EE.down]
            obtain ⟨o11, ho, h⟩ := Option.bind_eq_some_iff.1 h
            refine cutS (fun s => s = ⟨[(3, .one (.c (.pt 0 0))), (4, .one (.c (.own 1 0 0 (o7_1.length) none))), (6, .one (.c (.pt 2 0))), (7, .one (.c (.d (.v (.int .i64 o11))))), (29, .one (.c (.d (.sl (x0.map eAct))))), (30, .one (.c (.d (.v (.int .i64 ((x0.length : Int))))))), (31, .one (.c (.d (.v (.int .i64 ((o7_2 : Int)))))))], [some (.box [.d (.sl (t10.1.map eWorkItem)), .d (.sl (t10.2.1.map eWorkItem)), .d (.sl (t10.2.2.1.map eWorkItem)), .d (.sl (t10.2.2.2.1.map eWorkItem)), .d (.sl (t10.2.2.2.2.map eWorkItem)), .d (.v (.int .i64 (((⟨(o7_0).Waiting, (o7_0).Active, (o7_0).Stuck, (o7_0).Backoff, (o7_0).Retries, (o7_0).Cycle⟩ : SchedQueue)).Cycle)))]), some (.arr 0 2 (o7_1.map eWorkItem)), some (.box [.d (.v (.int .u8 xo7.Kind)), .d (.v (.string xo7.Key)), .d (.v (.int .i64 xo7.Priority)), .d (.v (.int .i64 xo7.N))])]⟩) ?_ ?_
            · have h := ho
              clear ho
              obtain ⟨_, hk, h⟩ := Option.bind_eq_some_iff.1 h
              have hk := ck_some hk
              simp only [VW.down, Nat.reduceEqDiff, reduceCtorEq, Nat.reduceAdd, Nat.reduceLeDiff, Nat.reduceLT, Nat.reduceBEq, Nat.reduceSub, EE.down]
              refine bL (fun j s => ∃ (o11_1 : Nat) (o11_0 : Int), (o11_1 ≤ o7_1.length ∧ j = o7_1.length - o11_1) ∧ s = ⟨[(3, .one (.c (.pt 0 0))), (4, .one (.c (.own 1 0 0 (o7_1.length) none))), (6, .one (.c (.pt 2 0))), (7, .one (.c (.d (.v (.int .i64 o11_0))))), (29, .one (.c (.d (.sl (x0.map eAct))))), (30, .one (.c (.d (.v (.int .i64 ((x0.length : Int))))))), (31, .one (.c (.d (.v (.int .i64 ((o7_2 : Int))))))), (41, .one (.c (.own 1 0 0 (o7_1.length) none))), (42, .one (.c (.d (.v (.int .i64 ((o7_1.length : Int))))))), (43, .one (.c (.d (.v (.int .i64 ((o11_1 : Int)))))))], [some (.box [.d (.sl (t10.1.map eWorkItem)), .d (.sl (t10.2.1.map eWorkItem)), .d (.sl (t10.2.2.1.map eWorkItem)), .d (.sl (t10.2.2.2.1.map eWorkItem)), .d (.sl (t10.2.2.2.2.map eWorkItem)), .d (.v (.int .i64 (((⟨(o7_0).Waiting, (o7_0).Active, (o7_0).Stuck, (o7_0).Backoff, (o7_0).Retries, (o7_0).Cycle⟩ : SchedQueue)).Cycle)))]), some (.arr 0 2 (o7_1.map eWorkItem)), some (.box [.d (.v (.int .u8 xo7.Kind)), .d (.v (.string xo7.Key)), .d (.v (.int .i64 xo7.Priority)), .d (.v (.int .i64 xo7.N))])]⟩ ∧ F5_l11 o7_1 xo7 (o7_1.drop o11_1) o11_1 o11_0 = some o11) (o7_1.length - 0) [some 0, some 1, some 2] ⟨0, (-1), ⟨hk.1, rfl⟩, rfl, h⟩ ?_
              rintro _ _ ⟨o11_1, o11_0, ⟨hi, rfl⟩, rfl, h⟩
              simp only [VW.down, Nat.reduceEqDiff, reduceCtorEq, Nat.reduceAdd, Nat.reduceLeDiff, Nat.reduceLT, Nat.reduceBEq, Nat.reduceSub, EE.down]
              refine condS (fun c12 => ?_) (fun c12 => ?_)
              · obtain ⟨xo11, hxo11, hd⟩ := countY c12
                rw [hd, F5_l11] at h
                simp only [VW.down, Nat.reduceEqDiff, reduceCtorEq, Nat.reduceAdd, Nat.reduceLeDiff, Nat.reduceLT, Nat.reduceBEq, Nat.reduceSub, EE.down]
                obtain ⟨o13, ho, h⟩ := Option.bind_eq_some_iff.1 h
                refine cutS (fun s => s = ⟨[(3, .one (.c (.pt 0 0))), (4, .one (.c (.own 1 0 0 (o7_1.length) none))), (6, .one (.c (.pt 2 0))), (7, .one (.c (.d (.v (.int .i64 o13))))), (29, .one (.c (.d (.sl (x0.map eAct))))), (30, .one (.c (.d (.v (.int .i64 ((x0.length : Int))))))), (31, .one (.c (.d (.v (.int .i64 ((o7_2 : Int))))))), (41, .one (.c (.own 1 0 0 (o7_1.length) none))), (42, .one (.c (.d (.v (.int .i64 ((o7_1.length : Int))))))), (43, .one (.c (.d (.v (.int .i64 ((o11_1 : Int)))))))], [some (.box [.d (.sl (t10.1.map eWorkItem)), .d (.sl (t10.2.1.map eWorkItem)), .d (.sl (t10.2.2.1.map eWorkItem)), .d (.sl (t10.2.2.2.1.map eWorkItem)), .d (.sl (t10.2.2.2.2.map eWorkItem)), .d (.v (.int .i64 (((⟨(o7_0).Waiting, (o7_0).Active, (o7_0).Stuck, (o7_0).Backoff, (o7_0).Retries, (o7_0).Cycle⟩ : SchedQueue)).Cycle)))]), some (.arr 0 2 (o7_1.map eWorkItem)), some (.box [.d (.v (.int .u8 xo7.Kind)), .d (.v (.string xo7.Key)), .d (.v (.int .i64 xo7.Priority)), .d (.v (.int .i64 xo7.N))])]⟩) ?_ ?_
                · have h := ho
                  clear ho
                  simp only [VW.down, Nat.reduceEqDiff, reduceCtorEq, Nat.reduceAdd, Nat.reduceLeDiff, Nat.reduceLT, Nat.reduceBEq, Nat.reduceSub, EE.down]
                  obtain ⟨y14, hy14, h⟩ := Option.bind_eq_some_iff.1 h
                  refine t_idxO (enc := eWorkItem) (xs := o7_1) rfl rfl rfl (by first | rfl | simp only [List.length_set] | exact (clrL_len (slI_len (by assumption))).symm) hy14 ?_
                  simp only [VW.down, Nat.reduceEqDiff, reduceCtorEq, Nat.reduceAdd, Nat.reduceLeDiff, Nat.reduceLT, Nat.reduceBEq, Nat.reduceSub, EE.down]
                  refine LdRow.rd (rdI_some hy14).2.1 ?_
                  simp only [VW.down, Nat.reduceEqDiff, reduceCtorEq, Nat.reduceAdd, Nat.reduceLeDiff, Nat.reduceLT, Nat.reduceBEq, Nat.reduceSub, EE.down]
                  refine condS (fun c15 => ?_) (fun c15 => ?_)
                  · have h := (if_pos c15).symm.trans h
                    simp only [VW.down, Nat.reduceEqDiff, reduceCtorEq, Nat.reduceAdd, Nat.reduceLeDiff, Nat.reduceLT, Nat.reduceBEq, Nat.reduceSub, EE.down]
                    obtain rfl := Option.some.inj h
                    exact eM [some 0, some 1, some 2] rfl
                  · have h := (if_neg c15).symm.trans h
                    simp only [VW.down, Nat.reduceEqDiff, reduceCtorEq, Nat.reduceAdd, Nat.reduceLeDiff, Nat.reduceLT, Nat.reduceBEq, Nat.reduceSub, EE.down]
                    obtain rfl := Option.some.inj h
                    exact eM [some 0, some 1, some 2] rfl
                · rintro _ rfl
                  clear ho
                  simp only [VW.down, Nat.reduceEqDiff, reduceCtorEq, Nat.reduceAdd, Nat.reduceLeDiff, Nat.reduceLT, Nat.reduceBEq, Nat.reduceSub, EE.down]
                  rw [wrapN (by omega)]
                  exact eL' (o7_1.length - (o11_1 + 1)) [some 0, some 1, some 2] ⟨o11_1 + 1, o13, ⟨by omega, rfl⟩, rfl, h⟩ (by omega)
              · rw [countN c12, F5_l11] at h
                simp only [VW.down, Nat.reduceEqDiff, reduceCtorEq, Nat.reduceAdd, Nat.reduceLeDiff, Nat.reduceLT, Nat.reduceBEq, Nat.reduceSub, EE.down]
                obtain rfl := Option.some.inj h
                exact eM [some 0, some 1, some 2] rfl
            · rintro _ rfl
              clear ho
              simp only [VW.down, Nat.reduceEqDiff, reduceCtorEq, Nat.reduceAdd, Nat.reduceLeDiff, Nat.reduceLT, Nat.reduceBEq, Nat.reduceSub, EE.down]
              obtain ⟨o17, ho, h⟩ := Option.bind_eq_some_iff.1 h
              refine cutS (fun s => s = ⟨[(3, .one (.c (.pt 0 0))), (4, .one (.c (.own 1 0 0 (o7_1.length) none))), (6, .one (.c (.pt 2 0))), (7, .one (.c (.d (.v (.int .i64 o11))))), (29, .one (.c (.d (.sl (x0.map eAct))))), (30, .one (.c (.d (.v (.int .i64 ((x0.length : Int))))))), (31, .one (.c (.d (.v (.int .i64 ((o7_2 : Int))))))), (66, .one (.c (.d (.v (.bool o17)))))], [some (.box [.d (.sl (t10.1.map eWorkItem)), .d (.sl (t10.2.1.map eWorkItem)), .d (.sl (t10.2.2.1.map eWorkItem)), .d (.sl (t10.2.2.2.1.map eWorkItem)), .d (.sl (t10.2.2.2.2.map eWorkItem)), .d (.v (.int .i64 (((⟨(o7_0).Waiting, (o7_0).Active, (o7_0).Stuck, (o7_0).Backoff, (o7_0).Retries, (o7_0).Cycle⟩ : SchedQueue)).Cycle)))]), some (.arr 0 2 (o7_1.map eWorkItem)), some (.box [.d (.v (.int .u8 xo7.Kind)), .d (.v (.string xo7.Key)), .d (.v (.int .i64 xo7.Priority)), .d (.v (.int .i64 xo7.N))])]⟩) ?_ ?_
              · have h := ho
                clear ho
                simp only [VW.down, Nat.reduceEqDiff, reduceCtorEq, Nat.reduceAdd, Nat.reduceLeDiff, Nat.reduceLT, Nat.reduceBEq, Nat.reduceSub, EE.down]
                refine guardD (fun g18 => ?_) (fun g18 => ?_)
                · have h := (if_pos g18).symm.trans h
                  simp only [VW.down, Nat.reduceEqDiff, reduceCtorEq, Nat.reduceAdd, Nat.reduceLeDiff, Nat.reduceLT, Nat.reduceBEq, Nat.reduceSub, EE.down]
                  obtain ⟨y19, hy19, h⟩ := Option.bind_eq_some_iff.1 h
                  refine t_idxO (enc := eWorkItem) (xs := o7_1) rfl rfl rfl (by first | rfl | simp only [List.length_set] | exact (clrL_len (slI_len (by assumption))).symm) hy19 ?_
                  simp only [VW.down, Nat.reduceEqDiff, reduceCtorEq, Nat.reduceAdd, Nat.reduceLeDiff, Nat.reduceLT, Nat.reduceBEq, Nat.reduceSub, EE.down]
                  refine LdRow.rd (rdI_some hy19).2.1 ?_
                  simp only [VW.down, Nat.reduceEqDiff, reduceCtorEq, Nat.reduceAdd, Nat.reduceLeDiff, Nat.reduceLT, Nat.reduceBEq, Nat.reduceSub, EE.down]
                  obtain rfl := Option.some.inj h
                  exact eM [some 0, some 1, some 2] rfl
                · have h := (if_neg g18).symm.trans h
                  simp only [VW.down, Nat.reduceEqDiff, reduceCtorEq, Nat.reduceAdd, Nat.reduceLeDiff, Nat.reduceLT, Nat.reduceBEq, Nat.reduceSub, EE.down]
                  obtain rfl := Option.some.inj h
                  exact eM [some 0, some 1, some 2] rfl
              · rintro _ rfl
                clear ho
                simp only [VW.down, Nat.reduceEqDiff, reduceCtorEq, Nat.reduceAdd, Nat.reduceLeDiff, Nat.reduceLT, Nat.reduceBEq, Nat.reduceSub, EE.down]
                refine condB (fun c20 => ?_) (fun c20 => ?_)
                · have h := (if_pos c20).symm.trans h
                  simp only [VW.down, Nat.reduceEqDiff, reduceCtorEq, Nat.reduceAdd, Nat.reduceLeDiff, Nat.reduceLT, Nat.reduceBEq, Nat.reduceSub, EE.down]
                  obtain rfl := Option.some.inj h
                  exact eM [some 0, some 1] rfl
                · have h := (if_neg c20).symm.trans h
                  simp only [VW.down, Nat.reduceEqDiff, reduceCtorEq, Nat.reduceAdd, Nat.reduceLeDiff, Nat.reduceLT, Nat.reduceBEq, Nat.reduceSub, EE.down]
                  obtain ⟨o21, ho, h⟩ := Option.bind_eq_some_iff.1 h
                  refine cutS (fun s => s = ⟨[(3, .one (.c (.pt 0 0))), (4, .one (.c (.own 1 0 0 (o21.length) none))), (6, .one (.c (.pt 2 0))), (29, .one (.c (.d (.sl (x0.map eAct))))), (30, .one (.c (.d (.v (.int .i64 ((x0.length : Int))))))), (31, .one (.c (.d (.v (.int .i64 ((o7_2 : Int)))))))], [some (.box [.d (.sl (t10.1.map eWorkItem)), .d (.sl (t10.2.1.map eWorkItem)), .d (.sl (t10.2.2.1.map eWorkItem)), .d (.sl (t10.2.2.2.1.map eWorkItem)), .d (.sl (t10.2.2.2.2.map eWorkItem)), .d (.v (.int .i64 (((⟨(o7_0).Waiting, (o7_0).Active, (o7_0).Stuck, (o7_0).Backoff, (o7_0).Retries, (o7_0).Cycle⟩ : SchedQueue)).Cycle)))]), some (.arr 0 2 (o21.map eWorkItem)), some (.box [.d (.v (.int .u8 xo7.Kind)), .d (.v (.string xo7.Key)), .d (.v (.int .i64 xo7.Priority)), .d (.v (.int .i64 xo7.N))])]⟩) ?_ ?_
                  · have h := ho
                    clear ho
                    simp only [VW.down, Nat.reduceEqDiff, reduceCtorEq, Nat.reduceAdd, Nat.reduceLeDiff, Nat.reduceLT, Nat.reduceBEq, Nat.reduceSub, EE.down]
                    refine condS (fun c22 => ?_) (fun c22 => ?_)
                    · have h := (if_pos c22).symm.trans h
                      simp only [VW.down, Nat.reduceEqDiff, reduceCtorEq, Nat.reduceAdd, Nat.reduceLeDiff, Nat.reduceLT, Nat.reduceBEq, Nat.reduceSub, EE.down]
                      obtain ⟨t23, ht23, h⟩ := Option.bind_eq_some_iff.1 h
                      refine callX_gen (as1 := [.c (.d (.sl (o7_1.map eWorkItem))), .c (.d (.v (.int .i64 o11)))]) [(1, .arr 1 2 [])] [some 0, none, some 2] [] (F16_ok ht23) ⟨?_, rfl, ?_⟩ ?_ ?_ ?_ ?_ ?_ ?_ ?_ ?_
                      · simp only [ZZ.down, Nat.reduceEqDiff, reduceCtorEq, Nat.reduceAdd, Nat.reduceLeDiff, Nat.reduceLT, Nat.reduceBNe, EE.down]
                      · simp only [ZZ.down, Nat.reduceEqDiff, reduceCtorEq, Nat.reduceAdd, Nat.reduceLeDiff, Nat.reduceLT, Nat.reduceBNe, EE.down]
                      · simp only [ZZ.down, Nat.reduceEqDiff, reduceCtorEq, Nat.reduceAdd, Nat.reduceLeDiff, Nat.reduceLT, Nat.reduceBNe, EE.down]
                      · rfl
                      · rfl
                      · simp [liveAll, A1.live, C.live]
                      · rfl
                      · decide
                      · exact trivial
                      simp only [VW.down, Nat.reduceEqDiff, reduceCtorEq, Nat.reduceAdd, Nat.reduceLeDiff, Nat.reduceLT, Nat.reduceBEq, Nat.reduceSub, EE.down]
                      obtain rfl := Option.some.inj h
                      exact eM [some 0, some 3, some 2] rfl
                    · have h := (if_neg c22).symm.trans h
                      simp only [VW.down, Nat.reduceEqDiff, reduceCtorEq, Nat.reduceAdd, Nat.reduceLeDiff, Nat.reduceLT, Nat.reduceBEq, Nat.reduceSub, EE.down]
                      obtain rfl := Option.some.inj h
                      exact eM [some 0, some 1, some 2] rfl
                  · rintro _ rfl
                    clear ho
                    simp only [VW.down, Nat.reduceEqDiff, reduceCtorEq, Nat.reduceAdd, Nat.reduceLeDiff, Nat.reduceLT, Nat.reduceBEq, Nat.reduceSub, EE.down]
                    refine t_bslice (enc := eWorkItem) (ys := [(⟨xo7.Key, xo7.Priority⟩ : WorkItem)]) rfl rfl (by simp [A1.cells]) rfl ?_
                    simp only [VW.down, Nat.reduceEqDiff, reduceCtorEq, Nat.reduceAdd, Nat.reduceLeDiff, Nat.reduceLT, Nat.reduceBEq, Nat.reduceSub, EE.down]
                    obtain ⟨a24, ha24, h⟩ := Option.bind_eq_some_iff.1 h
                    refine t_app (enc := eWorkItem) (xs := o21) rfl rfl (by first | rfl | simp only [List.length_set] | exact (clrL_len (slI_len (by assumption))).symm) rfl (rows_full (enc := eWorkItem) (by first | rfl | simp only [List.length_set] | exact (clrL_len (slI_len (by assumption))).symm) rfl) ha24 ?_
                    simp only [VW.down, Nat.reduceEqDiff, reduceCtorEq, Nat.reduceAdd, Nat.reduceLeDiff, Nat.reduceLT, Nat.reduceBEq, Nat.reduceSub, EE.down]
                    obtain rfl := Option.some.inj h
                    exact eM [some 0, some 1] rfl
          · rintro _ rfl
            clear ho
            simp only [VW.down, Nat.reduceEqDiff, reduceCtorEq, Nat.reduceAdd, Nat.reduceLeDiff, Nat.reduceLT, Nat.reduceBEq, Nat.reduceSub, EE.down]
            rw [wrapN (by omega)]
            exact eL' (x0.length - (o7_2 + 1)) [some 0, some 1] ⟨o7_2 + 1, (⟨(o9.1).Waiting, (o9.1).Active, (o9.1).Stuck, (o9.1).Backoff, (o9.1).Retries, (o9.1).Cycle⟩ : SchedQueue), o9.2, ⟨by omega, rfl⟩, rfl, h⟩ (by omega)
        · rw [countN c8, F5_l7] at h
          simp only [VW.down, Nat.reduceEqDiff, reduceCtorEq, Nat.reduceAdd, Nat.reduceLeDiff, Nat.reduceLT, Nat.reduceBEq, Nat.reduceSub, EE.down]
          obtain rfl := Option.some.inj h
          exact eM [some 0, some 1] rfl
      · rintro _ rfl
        clear ho
        simp only [VW.down, Nat.reduceEqDiff, reduceCtorEq, Nat.reduceAdd, Nat.reduceLeDiff, Nat.reduceLT, Nat.reduceBEq, Nat.reduceSub, EE.down]
        obtain ⟨o26, ho, h⟩ := Option.bind_eq_some_iff.1 h
        refine cutS (fun s => ∃ po26, o26 = Sum.inr po26 ∧ s = ⟨[(3, .one (.c (.pt 0 0)))], [some (.box [.d (.sl (((po26).Waiting).map eWorkItem)), .d (.sl (((po26).Active).map eWorkItem)), .d (.sl (((po26).Stuck).map eWorkItem)), .d (.sl (((po26).Backoff).map eWorkItem)), .d (.sl (((po26).Retries).map eWorkItem)), .d (.v (.int .i64 ((po26).Cycle)))])]⟩) ?_ ?_
        · have h0o26 := h
          have h := ho
          clear ho
          simp only [VW.down, Nat.reduceEqDiff, reduceCtorEq, Nat.reduceAdd, Nat.reduceLeDiff, Nat.reduceLT, Nat.reduceBEq, Nat.reduceSub, EE.down]
          refine bL (fun j s => ∃ (o26_0 : SchedQueue) (o26_1 : List WorkItem), s = ⟨[(3, .one (.c (.pt 0 0))), (4, .one (.c (.own 1 0 0 (o26_1.length) none)))], [some (.box [.d (.sl (((o26_0).Waiting).map eWorkItem)), .d (.sl (((o26_0).Active).map eWorkItem)), .d (.sl (((o26_0).Stuck).map eWorkItem)), .d (.sl (((o26_0).Backoff).map eWorkItem)), .d (.sl (((o26_0).Retries).map eWorkItem)), .d (.v (.int .i64 ((o26_0).Cycle)))]), some (.arr 0 2 (o26_1.map eWorkItem))]⟩ ∧ F5_l26 j o26_0 o26_1 = some o26) 1099511627776 [some 0, some 1] ⟨(⟨(o7.1).Waiting, (o7.1).Active, (o7.1).Stuck, (o7.1).Backoff, (o7.1).Retries, (o7.1).Cycle⟩ : SchedQueue), o7.2, rfl, h⟩ ?_
          rintro j _ ⟨o26_0, o26_1, rfl, h⟩
          cases j with
          | zero => cases (show (none : Option _) = some _ from h)
          | succ j =>
            rw [F5_l26] at h
            simp only [VW.down, Nat.reduceEqDiff, reduceCtorEq, Nat.reduceAdd, Nat.reduceLeDiff, Nat.reduceLT, Nat.reduceBEq, Nat.reduceSub, EE.down]
            refine condS (fun c27 => ?_) (fun c27 => ?_)
            · have h := (if_pos c27).symm.trans h
              simp only [VW.down, Nat.reduceEqDiff, reduceCtorEq, Nat.reduceAdd, Nat.reduceLeDiff, Nat.reduceLT, Nat.reduceBEq, Nat.reduceSub, EE.down]
              obtain ⟨o28, ho, h⟩ := Option.bind_eq_some_iff.1 h
              refine cutS (fun s => s = ⟨[(3, .one (.c (.pt 0 0))), (4, .one (.c (.own 1 0 0 (o26_1.length) none))), (10, .one (.c (.d (.v (.int .i64 o28)))))], [some (.box [.d (.sl (((o26_0).Waiting).map eWorkItem)), .d (.sl (((o26_0).Active).map eWorkItem)), .d (.sl (((o26_0).Stuck).map eWorkItem)), .d (.sl (((o26_0).Backoff).map eWorkItem)), .d (.sl (((o26_0).Retries).map eWorkItem)), .d (.v (.int .i64 ((o26_0).Cycle)))]), some (.arr 0 2 (o26_1.map eWorkItem))]⟩) ?_ ?_
              · have h := ho
                clear ho
                obtain ⟨_, hk, h⟩ := Option.bind_eq_some_iff.1 h
                have hk := ck_some hk
                simp only [VW.down, Nat.reduceEqDiff, reduceCtorEq, Nat.reduceAdd, Nat.reduceLeDiff, Nat.reduceLT, Nat.reduceBEq, Nat.reduceSub, EE.down]
                refine bL (fun j s => ∃ (o28_1 : Nat) (o28_0 : Int), (o28_1 ≤ o26_1.length ∧ j = o26_1.length - o28_1) ∧ s = ⟨[(3, .one (.c (.pt 0 0))), (4, .one (.c (.own 1 0 0 (o26_1.length) none))), (10, .one (.c (.d (.v (.int .i64 o28_0))))), (84, .one (.c (.own 1 0 0 (o26_1.length) none))), (85, .one (.c (.d (.v (.int .i64 ((o26_1.length : Int))))))), (86, .one (.c (.d (.v (.int .i64 ((o28_1 : Int)))))))], [some (.box [.d (.sl (((o26_0).Waiting).map eWorkItem)), .d (.sl (((o26_0).Active).map eWorkItem)), .d (.sl (((o26_0).Stuck).map eWorkItem)), .d (.sl (((o26_0).Backoff).map eWorkItem)), .d (.sl (((o26_0).Retries).map eWorkItem)), .d (.v (.int .i64 ((o26_0).Cycle)))]), some (.arr 0 2 (o26_1.map eWorkItem))]⟩ ∧ F5_l28 o26_1 (o26_1.drop o28_1) o28_1 o28_0 = some o28) (o26_1.length - 0) [some 0, some 1] ⟨0, 0, ⟨hk.1, rfl⟩, rfl, h⟩ ?_
                rintro _ _ ⟨o28_1, o28_0, ⟨hi, rfl⟩, rfl, h⟩
                simp only [VW.down, Nat.reduceEqDiff, reduceCtorEq, Nat.reduceAdd, Nat.reduceLeDiff, Nat.reduceLT, Nat.reduceBEq, Nat.reduceSub, EE.down]
                refine condS (fun c29 => ?_) (fun c29 => ?_)
                · obtain ⟨xo28, hxo28, hd⟩ := countY c29
                  rw [hd, F5_l28] at h
                  simp only [VW.down, Nat.reduceEqDiff, reduceCtorEq, Nat.reduceAdd, Nat.reduceLeDiff, Nat.reduceLT, Nat.reduceBEq, Nat.reduceSub, EE.down]
                  obtain ⟨o30, ho, h⟩ := Option.bind_eq_some_iff.1 h
                  refine cutS (fun s => s = ⟨[(3, .one (.c (.pt 0 0))), (4, .one (.c (.own 1 0 0 (o26_1.length) none))), (10, .one (.c (.d (.v (.int .i64 o30))))), (84, .one (.c (.own 1 0 0 (o26_1.length) none))), (85, .one (.c (.d (.v (.int .i64 ((o26_1.length : Int))))))), (86, .one (.c (.d (.v (.int .i64 ((o28_1 : Int)))))))], [some (.box [.d (.sl (((o26_0).Waiting).map eWorkItem)), .d (.sl (((o26_0).Active).map eWorkItem)), .d (.sl (((o26_0).Stuck).map eWorkItem)), .d (.sl (((o26_0).Backoff).map eWorkItem)), .d (.sl (((o26_0).Retries).map eWorkItem)), .d (.v (.int .i64 ((o26_0).Cycle)))]), some (.arr 0 2 (o26_1.map eWorkItem))]⟩) ?_ ?_
                  · have h := ho
                    clear ho
                    simp only [VW.down, Nat.reduceEqDiff, reduceCtorEq, Nat.reduceAdd, Nat.reduceLeDiff, Nat.reduceLT, Nat.reduceBEq, Nat.reduceSub, EE.down]
                    obtain ⟨y31, hy31, h⟩ := Option.bind_eq_some_iff.1 h
                    refine t_idxO (enc := eWorkItem) (xs := o26_1) rfl rfl rfl (by first | rfl | simp only [List.length_set] | exact (clrL_len (slI_len (by assumption))).symm) hy31 ?_
                    simp only [VW.down, Nat.reduceEqDiff, reduceCtorEq, Nat.reduceAdd, Nat.reduceLeDiff, Nat.reduceLT, Nat.reduceBEq, Nat.reduceSub, EE.down]
                    refine LdRow.rd (rdI_some hy31).2.1 ?_
                    simp only [VW.down, Nat.reduceEqDiff, reduceCtorEq, Nat.reduceAdd, Nat.reduceLeDiff, Nat.reduceLT, Nat.reduceBEq, Nat.reduceSub, EE.down]
                    obtain ⟨y32, hy32, h⟩ := Option.bind_eq_some_iff.1 h
                    refine t_idxO (enc := eWorkItem) (xs := o26_1) rfl rfl rfl (by first | rfl | simp only [List.length_set] | exact (clrL_len (slI_len (by assumption))).symm) hy32 ?_
                    simp only [VW.down, Nat.reduceEqDiff, reduceCtorEq, Nat.reduceAdd, Nat.reduceLeDiff, Nat.reduceLT, Nat.reduceBEq, Nat.reduceSub, EE.down]
                    refine LdRow.rd (rdI_some hy32).2.1 ?_
                    simp only [VW.down, Nat.reduceEqDiff, reduceCtorEq, Nat.reduceAdd, Nat.reduceLeDiff, Nat.reduceLT, Nat.reduceBEq, Nat.reduceSub, EE.down]
                    refine condS (fun c33 => ?_) (fun c33 => ?_)
                    · have h := (if_pos c33).symm.trans h
                      simp only [VW.down, Nat.reduceEqDiff, reduceCtorEq, Nat.reduceAdd, Nat.reduceLeDiff, Nat.reduceLT, Nat.reduceBEq, Nat.reduceSub, EE.down]
                      obtain rfl := Option.some.inj h
                      exact eM [some 0, some 1] rfl
                    · have h := (if_neg c33).symm.trans h
                      simp only [VW.down, Nat.reduceEqDiff, reduceCtorEq, Nat.reduceAdd, Nat.reduceLeDiff, Nat.reduceLT, Nat.reduceBEq, Nat.reduceSub, EE.down]
                      obtain rfl := Option.some.inj h
                      exact eM [some 0, some 1] rfl
                  · rintro _ rfl
                    clear ho
                    simp only [VW.down, Nat.reduceEqDiff, reduceCtorEq, Nat.reduceAdd, Nat.reduceLeDiff, Nat.reduceLT, Nat.reduceBEq, Nat.reduceSub, EE.down]
                    rw [wrapN (by omega)]
                    exact eL' (o26_1.length - (o28_1 + 1)) [some 0, some 1] ⟨o28_1 + 1, o30, ⟨by omega, rfl⟩, rfl, h⟩ (by omega)
                · rw [countN c29, F5_l28] at h
                  simp only [VW.down, Nat.reduceEqDiff, reduceCtorEq, Nat.reduceAdd, Nat.reduceLeDiff, Nat.reduceLT, Nat.reduceBEq, Nat.reduceSub, EE.down]
                  obtain rfl := Option.some.inj h
                  exact eM [some 0, some 1] rfl
              · rintro _ rfl
                clear ho
                simp only [VW.down, Nat.reduceEqDiff, reduceCtorEq, Nat.reduceAdd, Nat.reduceLeDiff, Nat.reduceLT, Nat.reduceBEq, Nat.reduceSub, EE.down]
                obtain ⟨t35, ht35, h⟩ := Option.bind_eq_some_iff.1 h
                refine callX_n [] (F17_ok ht35) ?_ ?_ ?_ ?_ ?_ ?_
                · first | rfl | simp [nrmA, nrmC, nrm, A1.ren, C.ren, rn, List.length_set]
                · simp [liveAll, A1.live, C.live]
                · rfl
                · decide
                · exact trivial
                simp only [VW.down, Nat.reduceEqDiff, reduceCtorEq, Nat.reduceAdd, Nat.reduceLeDiff, Nat.reduceLT, Nat.reduceBEq, Nat.reduceSub, EE.down]
                obtain ⟨o36, ho, h⟩ := Option.bind_eq_some_iff.1 h
                refine cutS (fun s => s = ⟨[(3, .one (.c (.pt 0 0))), (4, .one (.c (.own 1 0 0 (o26_1.length) none))), (10, .one (.c (.d (.v (.int .i64 o28))))), (13, .one (.c (.pt 2 0))), (125, .one (.c (.d (.v (.bool o36)))))], [some (.box [.d (.sl (((o26_0).Waiting).map eWorkItem)), .d (.sl (((o26_0).Active).map eWorkItem)), .d (.sl (((o26_0).Stuck).map eWorkItem)), .d (.sl (((o26_0).Backoff).map eWorkItem)), .d (.sl (((o26_0).Retries).map eWorkItem)), .d (.v (.int .i64 ((o26_0).Cycle)))]), some (.arr 0 2 (o26_1.map eWorkItem)), some (.box [.d (.sl (t35.1.map eWorkItem)), .d (.sl (t35.2.1.map eWorkItem)), .d (.sl (t35.2.2.1.map eWorkItem)), .d (.sl (t35.2.2.2.1.map eWorkItem)), .d (.sl (t35.2.2.2.2.1.map eWorkItem)), .d (.v (.int .i64 t35.2.2.2.2.2.1))])]⟩) ?_ ?_
                · have h := ho
                  clear ho
                  simp only [VW.down, Nat.reduceEqDiff, reduceCtorEq, Nat.reduceAdd, Nat.reduceLeDiff, Nat.reduceLT, Nat.reduceBEq, Nat.reduceSub, EE.down]
                  refine guardSB (fun g37 => ?_) (fun g37 => ?_)
                  · have h := (if_pos g37).symm.trans h
                    simp only [VW.down, Nat.reduceEqDiff, reduceCtorEq, Nat.reduceAdd, Nat.reduceLeDiff, Nat.reduceLT, Nat.reduceBEq, Nat.reduceSub, EE.down]
                    obtain rfl := Option.some.inj h
                    exact eM [some 0, some 1, some 6] rfl
                  · have h := (if_neg g37).symm.trans h
                    simp only [VW.down, Nat.reduceEqDiff, reduceCtorEq, Nat.reduceAdd, Nat.reduceLeDiff, Nat.reduceLT, Nat.reduceBEq, Nat.reduceSub, EE.down]
                    obtain ⟨y38, hy38, h⟩ := Option.bind_eq_some_iff.1 h
                    refine t_idxO (enc := eWorkItem) (xs := o26_1) rfl rfl rfl (by first | rfl | simp only [List.length_set] | exact (clrL_len (slI_len (by assumption))).symm) hy38 ?_
                    simp only [VW.down, Nat.reduceEqDiff, reduceCtorEq, Nat.reduceAdd, Nat.reduceLeDiff, Nat.reduceLT, Nat.reduceBEq, Nat.reduceSub, EE.down]
                    refine LdRow.rd (rdI_some hy38).2.1 ?_
                    simp only [VW.down, Nat.reduceEqDiff, reduceCtorEq, Nat.reduceAdd, Nat.reduceLeDiff, Nat.reduceLT, Nat.reduceBEq, Nat.reduceSub, EE.down]
                    refine guardS (fun g39 => ?_) (fun g39 => ?_)
                    · have h := (if_pos g39).symm.trans h
                      simp only [VW.down, Nat.reduceEqDiff, reduceCtorEq, Nat.reduceAdd, Nat.reduceLeDiff, Nat.reduceLT, Nat.reduceBEq, Nat.reduceSub, EE.down]
                      obtain rfl := Option.some.inj h
                      exact eM [some 0, some 1, some 6] rfl
                    · have h := (if_neg g39).symm.trans h
                      simp only [VW.down, Nat.reduceEqDiff, reduceCtorEq, Nat.reduceAdd, Nat.reduceLeDiff, Nat.reduceLT, Nat.reduceBEq, Nat.reduceSub, EE.down]
                      obtain rfl := Option.some.inj h
                      exact eM [some 0, some 1, some 6] rfl
                · rintro _ rfl
                  clear ho
                  simp only [VW.down, Nat.reduceEqDiff, reduceCtorEq, Nat.reduceAdd, Nat.reduceLeDiff, Nat.reduceLT, Nat.reduceBEq, Nat.reduceSub, EE.down]
                  refine condB (fun c40 => ?_) (fun c40 => ?_)
                  · have h := (if_pos c40).symm.trans h
                    simp only [VW.down, Nat.reduceEqDiff, reduceCtorEq, Nat.reduceAdd, Nat.reduceLeDiff, Nat.reduceLT, Nat.reduceBEq, Nat.reduceSub, EE.down]
                    obtain ⟨fh0o26, hfh0o26, rfl⟩ := Option.map_eq_some_iff.1 h
                    have h := hfh0o26.trans h0o26
                    obtain rfl := Option.some.inj h
                    exact eF []
                  · have h := (if_neg c40).symm.trans h
                    simp only [VW.down, Nat.reduceEqDiff, reduceCtorEq, Nat.reduceAdd, Nat.reduceLeDiff, Nat.reduceLT, Nat.reduceBEq, Nat.reduceSub, EE.down]
                    obtain ⟨t41, ht41, h⟩ := Option.bind_eq_some_iff.1 h
                    refine callX_gen (as1 := [.c (.d (.sl (o26_1.map eWorkItem))), .c (.d (.v (.int .i64 o28)))]) [(1, .arr 1 2 [])] [some 0, none, some 2] [] (F16_ok ht41) ⟨?_, rfl, ?_⟩ ?_ ?_ ?_ ?_ ?_ ?_ ?_ ?_
                    · simp only [ZZ.down, Nat.reduceEqDiff, reduceCtorEq, Nat.reduceAdd, Nat.reduceLeDiff, Nat.reduceLT, Nat.reduceBNe, EE.down]
                    · simp only [ZZ.down, Nat.reduceEqDiff, reduceCtorEq, Nat.reduceAdd, Nat.reduceLeDiff, Nat.reduceLT, Nat.reduceBNe, EE.down]
                    · simp only [ZZ.down, Nat.reduceEqDiff, reduceCtorEq, Nat.reduceAdd, Nat.reduceLeDiff, Nat.reduceLT, Nat.reduceBNe, EE.down]
                    · rfl
                    · rfl
                    · simp [liveAll, A1.live, C.live]
                    · rfl
                    · decide
                    · exact trivial
                    simp only [VW.down, Nat.reduceEqDiff, reduceCtorEq, Nat.reduceAdd, Nat.reduceLeDiff, Nat.reduceLT, Nat.reduceBEq, Nat.reduceSub, EE.down]
                    exact eL' j [some 0, some 3] ⟨(⟨t35.1, t35.2.1, t35.2.2.1, t35.2.2.2.1, t35.2.2.2.2.1, t35.2.2.2.2.2.1⟩ : SchedQueue), t41, rfl, h⟩ (Nat.lt_succ_self _)
            · have h := (if_neg c27).symm.trans h
              simp only [VW.down, Nat.reduceEqDiff, reduceCtorEq, Nat.reduceAdd, Nat.reduceLeDiff, Nat.reduceLT, Nat.reduceBEq, Nat.reduceSub, EE.down]
              obtain rfl := Option.some.inj h
              exact eM [some 0] ⟨_, rfl, rfl⟩
        · rintro _ ⟨po26, rfl, rfl⟩
          clear ho
          dsimp only at h
          simp only [VW.down, Nat.reduceEqDiff, reduceCtorEq, Nat.reduceAdd, Nat.reduceLeDiff, Nat.reduceLT, Nat.reduceBEq, Nat.reduceSub, EE.down]
          obtain ⟨t42, ht42, h⟩ := Option.bind_eq_some_iff.1 h
          refine callX_n [] (F17_ok ht42) ?_ ?_ ?_ ?_ ?_ ?_
          · first | rfl | simp [nrmA, nrmC, nrm, A1.ren, C.ren, rn, List.length_set]
          · simp [liveAll, A1.live, C.live]
          · rfl
          · decide
          · exact trivial
          simp only [VW.down, Nat.reduceEqDiff, reduceCtorEq, Nat.reduceAdd, Nat.reduceLeDiff, Nat.reduceLT, Nat.reduceBEq, Nat.reduceSub, EE.down]
          obtain ⟨o43, ho, h⟩ := Option.bind_eq_some_iff.1 h
          refine cutS (fun s => s = ⟨[(2, .one (.c (.d (.v (.bool o43)))))], []⟩) ?_ ?_
          · have h := ho
            clear ho
            simp only [VW.down, Nat.reduceEqDiff, reduceCtorEq, Nat.reduceAdd, Nat.reduceLeDiff, Nat.reduceLT, Nat.reduceBEq, Nat.reduceSub, EE.down]
            refine guardSB (fun g44 => ?_) (fun g44 => ?_)
            · have h := (if_pos g44).symm.trans h
              simp only [VW.down, Nat.reduceEqDiff, reduceCtorEq, Nat.reduceAdd, Nat.reduceLeDiff, Nat.reduceLT, Nat.reduceBEq, Nat.reduceSub, EE.down]
              obtain ⟨t45, ht45, h⟩ := Option.bind_eq_some_iff.1 h
              refine callX_n [] (F8_ok ht45) ?_ ?_ ?_ ?_ ?_ ?_
              · first | rfl | simp [nrmA, nrmC, nrm, A1.ren, C.ren, rn, List.length_set]
              · simp [liveAll, A1.live, C.live]
              · rfl
              · decide
              · exact trivial
              simp only [VW.down, Nat.reduceEqDiff, reduceCtorEq, Nat.reduceAdd, Nat.reduceLeDiff, Nat.reduceLT, Nat.reduceBEq, Nat.reduceSub, EE.down]
              obtain rfl := Option.some.inj h
              exact eM [] rfl
            · have h := (if_neg g44).symm.trans h
              simp only [VW.down, Nat.reduceEqDiff, reduceCtorEq, Nat.reduceAdd, Nat.reduceLeDiff, Nat.reduceLT, Nat.reduceBEq, Nat.reduceSub, EE.down]
              obtain rfl := Option.some.inj h
              exact eM [] rfl
          · rintro _ rfl
            clear ho
            simp only [VW.down, Nat.reduceEqDiff, reduceCtorEq, Nat.reduceAdd, Nat.reduceLeDiff, Nat.reduceLT, Nat.reduceBEq, Nat.reduceSub, EE.down]
            obtain rfl := Option.some.inj h
            exact eF []

/- orchestrator/orchestratorlaw42.until -/
def F19_l1 (x1 : ByteArray) : List WorkItem → Nat → Option ((Int) ⊕ (Unit))
  | [], o1_0 => some (Sum.inr (()))
  | xo1 :: xs, o1_0 => (if xo1.Key = x1 then (some xo1.At).map Sum.inl else F19_l1 x1 xs (o1_0 + 1))
def F19 (x0 : SchedQueue) (x1 : ByteArray) : Option (Int) := (((ck (0 ≤ x0.Backoff.length ∧ x0.Backoff.length ≤ 4294967290)).bind fun u4 => F19_l1 x1 x0.Backoff 0).bind fun o1 => match o1 with | Sum.inl f => some f | Sum.inr po1 => some ((-1)))
def a19 : AFn := ⟨21, [(.tmp 4)],
 (.seq (.reg [⟨(some 2), none, .box (.t 0), [], none⟩,
   ⟨(some 4), none, .mv (kI 0), [], none⟩])
 (.seq (.seq (.reg [⟨(some 7), none, .fieldA 3 (.t 2), [], none⟩,
   ⟨(some 8), none, .load none (.t 7), [], none⟩,
   ⟨(some 9), none, .len (.t 8), [], none⟩,
   ⟨(some 10), none, .mv (kI 0), [], none⟩])
 (.sem (.block 0 (.loop (.seq (.reg [⟨(some 11), none, .bin .lss (.t 10) (.t 9), [], none⟩])
 (.seq (.cond (.t 11)
 .skip
 (.exit 0))
 (.seq (.block 1 (.seq (.reg [⟨(some 12), none, .indexA 2 (.t 8) (.t 10), [], none⟩,
   ⟨(some 13), none, .load (some 2) (.t 12), [], none⟩,
   ⟨(some 6), none, .zbox [.d (.v (.string ⟨#[]⟩)), .d (.v (.int .i64 0))], [], none⟩,
   ⟨none, none, .store 2 (.t 6) (.t 13), [], none⟩])
 (.seq (.reg [⟨(some 14), none, .fieldA 0 (.t 6), [], none⟩,
   ⟨(some 15), none, .load none (.t 14), [], none⟩,
   ⟨(some 16), none, .mv (.t 1), [], none⟩,
   ⟨(some 17), none, .bin .eql (.t 15) (.t 16), [], none⟩])
 (.cond (.t 17)
 (.seq (.reg [⟨(some 18), none, .fieldA 1 (.t 6), [], none⟩,
   ⟨(some 19), none, .load none (.t 18), [], none⟩,
   ⟨(some 4), none, .mv (.t 19), [], none⟩])
 .ret)
 .skip))))
 (.reg [⟨(some 20), none, .bin .add (.t 10) (kI 1), [], none⟩,
   ⟨(some 10), none, .mv (.t 20), [], none⟩]))))))))
 (.seq (.reg [⟨(some 4), none, .mv (kI (-1)), [], none⟩])
 .ret)))⟩
theorem a19_ok : afn Try.prog 19 = some a19.er := by kernel_rfl
theorem F19_ok {x0 : SchedQueue} {x1 : ByteArray} {r : Int} (h : F19 x0 x1 = some r) : CallD Try.prog 19 [.agg [.d (.sl (x0.Waiting.map eWorkItem)), .d (.sl (x0.Active.map eWorkItem)), .d (.sl (x0.Stuck.map eWorkItem)), .d (.sl (x0.Backoff.map eWorkItem)), .d (.sl (x0.Retries.map eWorkItem)), .d (.v (.int .i64 x0.Cycle))], .c (.d (.v (.string x1)))] [] (tupV [.c (.d (.v (.int .i64 r)))]) [] := by
  refine callS a19_ok (by simp [a19]) ?_
  rw [F19] at h
  simp only [a19, VW.down, Nat.reduceEqDiff, reduceCtorEq, Nat.reduceAdd, Nat.reduceLeDiff, Nat.reduceLT, Nat.reduceBEq, Nat.reduceSub, EE.down]
  obtain ⟨o1, ho, h⟩ := Option.bind_eq_some_iff.1 h
  refine cutS (fun s => ∃ po1, o1 = Sum.inr po1 ∧ s = ⟨[], []⟩) ?_ ?_
  · have h0o1 := h
    have h := ho
    clear ho
    obtain ⟨_, hk, h⟩ := Option.bind_eq_some_iff.1 h
    have hk := ck_some hk
    simp only [VW.down, Nat.reduceEqDiff, reduceCtorEq, Nat.reduceAdd, Nat.reduceLeDiff, Nat.reduceLT, Nat.reduceBEq, Nat.reduceSub, EE.down]
    refine bL (fun j s => ∃ (o1_0 : Nat), (o1_0 ≤ x0.Backoff.length ∧ j = x0.Backoff.length - o1_0) ∧ s = ⟨[(1, .one (.c (.d (.v (.string x1))))), (8, .one (.c (.d (.sl (x0.Backoff.map eWorkItem))))), (9, .one (.c (.d (.v (.int .i64 ((x0.Backoff.length : Int))))))), (10, .one (.c (.d (.v (.int .i64 ((o1_0 : Int)))))))], []⟩ ∧ F19_l1 x1 (x0.Backoff.drop o1_0) o1_0 = some o1) (x0.Backoff.length - 0) [] ⟨0, ⟨hk.1, rfl⟩, rfl, h⟩ ?_
    rintro _ _ ⟨o1_0, ⟨hi, rfl⟩, rfl, h⟩
    simp only [VW.down, Nat.reduceEqDiff, reduceCtorEq, Nat.reduceAdd, Nat.reduceLeDiff, Nat.reduceLT, Nat.reduceBEq, Nat.reduceSub, EE.down]
    refine condS (fun c2 => ?_) (fun c2 => ?_)
    · obtain ⟨xo1, hxo1, hd⟩ := countY c2
      rw [hd, F19_l1] at h
      simp only [VW.down, Nat.reduceEqDiff, reduceCtorEq, Nat.reduceAdd, Nat.reduceLeDiff, Nat.reduceLT, Nat.reduceBEq, Nat.reduceSub, EE.down]
      refine t_idxF (enc := eWorkItem) (xs := x0.Backoff) rfl rfl hxo1 rfl ?_
      simp only [VW.down, Nat.reduceEqDiff, reduceCtorEq, Nat.reduceAdd, Nat.reduceLeDiff, Nat.reduceLT, Nat.reduceBEq, Nat.reduceSub, EE.down]
      refine condS (fun c3 => ?_) (fun c3 => ?_)
      · have h := (if_pos c3).symm.trans h
        simp only [VW.down, Nat.reduceEqDiff, reduceCtorEq, Nat.reduceAdd, Nat.reduceLeDiff, Nat.reduceLT, Nat.reduceBEq, Nat.reduceSub, EE.down]
        obtain ⟨fh0o1, hfh0o1, rfl⟩ := Option.map_eq_some_iff.1 h
        have h := hfh0o1.trans h0o1
        obtain rfl := Option.some.inj h
        exact eF []
      · have h := (if_neg c3).symm.trans h
        simp only [VW.down, Nat.reduceEqDiff, reduceCtorEq, Nat.reduceAdd, Nat.reduceLeDiff, Nat.reduceLT, Nat.reduceBEq, Nat.reduceSub, EE.down]
        rw [wrapN (by omega)]
        exact eL' (x0.Backoff.length - (o1_0 + 1)) [] ⟨o1_0 + 1, ⟨by omega, rfl⟩, rfl, h⟩ (by omega)
    · rw [countN c2, F19_l1] at h
      simp only [VW.down, Nat.reduceEqDiff, reduceCtorEq, Nat.reduceAdd, Nat.reduceLeDiff, Nat.reduceLT, Nat.reduceBEq, Nat.reduceSub, EE.down]
      obtain rfl := Option.some.inj h
      exact eM [] ⟨_, rfl, rfl⟩
  · rintro _ ⟨po1, rfl, rfl⟩
    clear ho
    dsimp only at h
    simp only [VW.down, Nat.reduceEqDiff, reduceCtorEq, Nat.reduceAdd, Nat.reduceLeDiff, Nat.reduceLT, Nat.reduceBEq, Nat.reduceSub, EE.down]
    obtain rfl := Option.some.inj h
    exact eF []

/- orchestrator/orchestratorlaw42.SchedqueueWaits -/
def F6_l9  : List Act → Nat → SchedQueue → Option (SchedQueue)
  | [], o9_1, o9_0 => some ((⟨(o9_0).Waiting, (o9_0).Active, (o9_0).Stuck, (o9_0).Backoff, (o9_0).Retries, (o9_0).Cycle⟩ : SchedQueue))
  | xo9 :: xs, o9_1, o9_0 => (F11 ((⟨(o9_0).Waiting, (o9_0).Active, (o9_0).Stuck, (o9_0).Backoff, (o9_0).Retries, (o9_0).Cycle⟩ : SchedQueue)) xo9).bind fun t11 => F6_l9  xs (o9_1 + 1) ((⟨t11.1, t11.2.1, t11.2.2.1, t11.2.2.2.1, t11.2.2.2.2.1, t11.2.2.2.2.2.1⟩ : SchedQueue))
def F6_l26 (t25 : SchedQueue) (x1 : ByteArray) (x2 : Int) : List WorkItem → Nat → Option ((Bool) ⊕ (Unit))
  | [], o26_0 => some (Sum.inr (()))
  | xo26 :: xs, o26_0 => (rdI ((t25).Active) ((o26_0 : Int))).bind fun y28 => (if y28.Key = x1 then (((if y28.At = x2 then (F8).bind fun t32 => some t32 else some false)).bind fun o30 => (some o30).map Sum.inl) else F6_l26 t25 x1 x2 xs (o26_0 + 1))
def F6 (x0 : (List Act)) (x1 : ByteArray) (x2 : Int) (x3 : Int) : Option (Bool) := (((F7 x0).bind fun t2 => (if (nb t2) = true then some true else (if 200 < (x1.size : Int) then some true else (if x3 < 0 then some true else some (decide (999999999900 < x3)))))).bind fun o1 => (if o1 = true then (F8).bind fun t7 => some t7 else (F9).bind fun t8 => (((ck (0 ≤ x0.length ∧ x0.length ≤ 4294967290)).bind fun u12 => F6_l9 x0 0 ((⟨[], [], [], [], [], 0⟩ : SchedQueue))).bind fun o9 => (((F18 ((⟨(o9).Waiting, (o9).Active, (o9).Stuck, (o9).Backoff, (o9).Retries, (o9).Cycle⟩ : SchedQueue)) x1 x2 x3).bind fun t14 => some ((t14.1, t14.2.1, t14.2.2.1, t14.2.2.2.1, t14.2.2.2.2))).bind fun o13 => (F18 ((⟨o13.1, o13.2.1, o13.2.2.1, o13.2.2.2.1, o13.2.2.2.2, ((⟨(o9).Waiting, (o9).Active, (o9).Stuck, (o9).Backoff, (o9).Retries, (o9).Cycle⟩ : SchedQueue)).Cycle⟩ : SchedQueue)) x1 x2 x3).bind fun t15 => (F19 ((⟨o13.1, o13.2.1, o13.2.2.1, o13.2.2.2.1, o13.2.2.2.2, ((⟨(o9).Waiting, (o9).Active, (o9).Stuck, (o9).Backoff, (o9).Retries, (o9).Cycle⟩ : SchedQueue)).Cycle⟩ : SchedQueue)) x1).bind fun t16 => (F19 ((⟨t15.1, t15.2.1, t15.2.2.1, t15.2.2.2.1, t15.2.2.2.2, ((⟨o13.1, o13.2.1, o13.2.2.1, o13.2.2.2.1, o13.2.2.2.2, ((⟨(o9).Waiting, (o9).Active, (o9).Stuck, (o9).Backoff, (o9).Retries, (o9).Cycle⟩ : SchedQueue)).Cycle⟩ : SchedQueue)).Cycle⟩ : SchedQueue)) x1).bind fun t17 => (((if t16 ≤ x3 then some true else (if t17 < t16 then some true else (if (IntKind.i64.wrap (x3 + 60)) < t16 then some true else (F21 ((⟨o13.1, o13.2.1, o13.2.2.1, o13.2.2.2.1, o13.2.2.2.2, ((⟨(o9).Waiting, (o9).Active, (o9).Stuck, (o9).Backoff, (o9).Retries, (o9).Cycle⟩ : SchedQueue)).Cycle⟩ : SchedQueue)) ((IntKind.i64.wrap (t16 - 1)))).bind fun t22 => (F20 ((t22).Active) x1).bind fun t23 => some (decide (¬ (t23 = 0))))))).bind fun o18 => (if o18 = true then some false else (F21 ((⟨o13.1, o13.2.1, o13.2.2.1, o13.2.2.2.1, o13.2.2.2.2, ((⟨(o9).Waiting, (o9).Active, (o9).Stuck, (o9).Backoff, (o9).Retries, (o9).Cycle⟩ : SchedQueue)).Cycle⟩ : SchedQueue)) t16).bind fun t25 => (((ck (0 ≤ (((t25).Active)).length ∧ (((t25).Active)).length ≤ 4294967290)).bind fun u33 => F6_l26 t25 x1 x2 (((t25).Active)) 0).bind fun o26 => match o26 with | Sum.inl f => some f | Sum.inr po26 => some false)))))))
def a6 : AFn := ⟨111, [(.tmp 8)],
 (.seq (.reg [⟨(some 8), none, .mv (kB false), [], none⟩])
 (.seq (.seq (.sem (.reg [⟨(some 18), none, .mv (.t 0), [], none⟩,
   ⟨(some 19), none, .call 7 [(.t 18)], [], none⟩,
   ⟨(some 20), none, .not (.t 19), [], none⟩,
   ⟨(some 21), none, .mv (.t 20), [], none⟩,
   ⟨(some 22), (some (21, false)), .mv (.t 1), [], none⟩,
   ⟨(some 23), (some (21, false)), .slen (.t 22), [], none⟩,
   ⟨(some 24), (some (21, false)), .bin .gtr (.t 23) (kI 200), [], none⟩,
   ⟨(some 25), none, .pick (.t 21) (kB true) (.t 24), [], none⟩,
   ⟨(some 26), none, .mv (.t 25), [], none⟩,
   ⟨(some 27), (some (26, false)), .mv (.t 3), [], none⟩,
   ⟨(some 28), (some (26, false)), .bin .lss (.t 27) (kI 0), [], none⟩,
   ⟨(some 29), none, .pick (.t 26) (kB true) (.t 28), [], none⟩,
   ⟨(some 30), none, .mv (.t 29), [], none⟩,
   ⟨(some 31), (some (30, false)), .mv (.t 3), [], none⟩,
   ⟨(some 32), (some (30, false)), .bin .gtr (.t 31) (kI 999999999900), [], none⟩,
   ⟨(some 33), none, .pick (.t 30) (kB true) (.t 32), [], none⟩]))
 (.cond (.t 33)
 (.seq (.reg [⟨(some 34), none, .call 8 [], [], none⟩,
   ⟨(some 8), none, .mv (.t 34), [], none⟩])
 .ret)
 .skip))
 (.seq (.reg [⟨(some 35), none, .call 9 [], [], none⟩,
   ⟨(some 9), none, .zbox [.d (.v (.slice none 0 0)), .d (.v (.slice none 0 0)), .d (.v (.slice none 0 0)), .d (.v (.slice none 0 0)), .d (.v (.slice none 0 0)), .d (.v (.int .i64 0))], [], none⟩,
   ⟨none, none, .store 6 (.t 9) (.t 35), [], none⟩])
 (.seq (.seq (.reg [⟨(some 36), none, .mv (.t 0), [], none⟩,
   ⟨(some 37), none, .len (.t 36), [], none⟩,
   ⟨(some 38), none, .mv (kI 0), [], none⟩])
 (.sem (.block 0 (.loop (.seq (.reg [⟨(some 39), none, .bin .lss (.t 38) (.t 37), [], none⟩])
 (.seq (.cond (.t 39)
 .skip
 (.exit 0))
 (.seq (.block 1 (.seq (.reg [⟨(some 40), none, .indexA 4 (.t 36) (.t 38), [], none⟩,
   ⟨(some 41), none, .load (some 4) (.t 40), [], none⟩,
   ⟨(some 11), none, .zbox [.d (.v (.int .u8 0)), .d (.v (.string ⟨#[]⟩)), .d (.v (.int .i64 0)), .d (.v (.int .i64 0))], [], none⟩,
   ⟨none, none, .store 4 (.t 11) (.t 41), [], none⟩])
 (.reg [⟨(some 43), none, .load (some 6) (.t 9), [], none⟩,
   ⟨(some 44), none, .load (some 4) (.t 11), [], none⟩,
   ⟨(some 45), none, .call 11 [(.t 43), (.t 44)], [], none⟩,
   ⟨(some 42), none, .mv (.t 45), [], none⟩,
   ⟨(some 46), none, .ext (.t 42) 0, [], none⟩,
   ⟨(some 47), none, .ext (.t 42) 1, [], none⟩,
   ⟨(some 48), none, .ext (.t 42) 2, [], none⟩,
   ⟨none, none, .store 6 (.t 9) (.t 46), [], none⟩])))
 (.reg [⟨(some 49), none, .bin .add (.t 38) (kI 1), [], none⟩,
   ⟨(some 38), none, .mv (.t 49), [], none⟩]))))))))
 (.seq (.sem (.reg [⟨(some 50), none, .load (some 6) (.t 9), [], none⟩,
   ⟨(some 51), none, .mv (.t 1), [], none⟩,
   ⟨(some 52), none, .mv (.t 2), [], none⟩,
   ⟨(some 53), none, .mv (.t 3), [], none⟩,
   ⟨(some 54), none, .call 18 [(.t 50), (.t 51), (.t 52), (.t 53)], [], none⟩,
   ⟨(some 12), none, .zbox [.d (.v (.slice none 0 0)), .d (.v (.slice none 0 0)), .d (.v (.slice none 0 0)), .d (.v (.slice none 0 0)), .d (.v (.slice none 0 0)), .d (.v (.int .i64 0))], [], none⟩,
   ⟨none, none, .store 6 (.t 12) (.t 54), [], none⟩]))
 (.seq (.reg [⟨(some 55), none, .load (some 6) (.t 12), [], none⟩,
   ⟨(some 56), none, .mv (.t 1), [], none⟩,
   ⟨(some 57), none, .mv (.t 2), [], none⟩,
   ⟨(some 58), none, .mv (.t 3), [], none⟩,
   ⟨(some 59), none, .call 18 [(.t 55), (.t 56), (.t 57), (.t 58)], [], none⟩,
   ⟨(some 13), none, .zbox [.d (.v (.slice none 0 0)), .d (.v (.slice none 0 0)), .d (.v (.slice none 0 0)), .d (.v (.slice none 0 0)), .d (.v (.slice none 0 0)), .d (.v (.int .i64 0))], [], none⟩,
   ⟨none, none, .store 6 (.t 13) (.t 59), [], none⟩])
 (.seq (.regd [⟨(some 60), none, .load (some 6) (.t 12), [], none⟩,
   ⟨(some 61), none, .mv (.t 1), [], none⟩,
   ⟨(some 62), none, .call 19 [(.t 60), (.t 61)], [0, 1], none⟩,
   ⟨(some 63), none, .load (some 6) (.t 13), [], none⟩,
   ⟨(some 64), none, .mv (.t 1), [], none⟩,
   ⟨(some 65), none, .call 19 [(.t 63), (.t 64)], [0, 1, 2, 3, 4], (some [])⟩,
   ⟨(some 14), none, .mv (.t 62), [0, 1, 2, 3, 4, 5], none⟩,
   ⟨(some 15), none, .mv (.t 65), [0, 1, 2, 3, 4, 5, 6], none⟩])
 (.seq (.seq (.sem (.reg [⟨(some 66), none, .mv (.t 14), [], none⟩,
   ⟨(some 67), none, .mv (.t 3), [], none⟩,
   ⟨(some 68), none, .bin .leq (.t 66) (.t 67), [], none⟩,
   ⟨(some 69), none, .mv (.t 68), [], none⟩,
   ⟨(some 70), (some (69, false)), .mv (.t 15), [], none⟩,
   ⟨(some 71), (some (69, false)), .mv (.t 14), [], none⟩,
   ⟨(some 72), (some (69, false)), .bin .lss (.t 70) (.t 71), [], none⟩,
   ⟨(some 73), none, .pick (.t 69) (kB true) (.t 72), [], none⟩,
   ⟨(some 74), none, .mv (.t 73), [], none⟩,
   ⟨(some 75), (some (74, false)), .mv (.t 14), [], none⟩,
   ⟨(some 76), (some (74, false)), .mv (.t 3), [], none⟩,
   ⟨(some 77), (some (74, false)), .bin .add (.t 76) (kI 60), [], none⟩,
   ⟨(some 78), (some (74, false)), .bin .gtr (.t 75) (.t 77), [], none⟩,
   ⟨(some 79), none, .pick (.t 74) (kB true) (.t 78), [], none⟩,
   ⟨(some 80), none, .mv (.t 79), [], none⟩,
   ⟨(some 81), (some (80, false)), .load (some 6) (.t 12), [], none⟩,
   ⟨(some 82), (some (80, false)), .mv (.t 14), [], none⟩,
   ⟨(some 83), (some (80, false)), .bin .sub (.t 82) (kI 1), [], none⟩,
   ⟨(some 84), (some (80, false)), .call 21 [(.t 81), (.t 83)], [], none⟩,
   ⟨(some 85), (some (80, false)), .field 1 none (.t 84), [], none⟩,
   ⟨(some 86), (some (80, false)), .mv (.t 1), [], none⟩,
   ⟨(some 87), (some (80, false)), .call 20 [(.t 85), (.t 86)], [], none⟩,
   ⟨(some 88), (some (80, false)), .bin .neq (.t 87) (kI 0), [], none⟩,
   ⟨(some 89), none, .pick (.t 80) (kB true) (.t 88), [], none⟩]))
 (.cond (.t 89)
 (.seq (.reg [⟨(some 8), none, .mv (kB false), [], none⟩])
 .ret)
 .skip))
 (.seq (.seq (.reg [⟨(some 90), none, .load (some 6) (.t 12), [], none⟩,
   ⟨(some 91), none, .mv (.t 14), [], none⟩,
   ⟨(some 92), none, .call 21 [(.t 90), (.t 91)], [], none⟩,
   ⟨(some 93), none, .field 1 none (.t 92), [], none⟩,
   ⟨(some 94), none, .len (.t 93), [], none⟩,
   ⟨(some 95), none, .mv (kI 0), [], none⟩])
 (.sem (.block 2 (.loop (.seq (.reg [⟨(some 96), none, .bin .lss (.t 95) (.t 94), [], none⟩])
 (.seq (.cond (.t 96)
 .skip
 (.exit 2))
 (.seq (.block 3 (.seq (.reg [⟨(some 97), none, .indexA 2 (.t 93) (.t 95), [], none⟩,
   ⟨(some 98), none, .load (some 2) (.t 97), [], none⟩,
   ⟨(some 17), none, .zbox [.d (.v (.string ⟨#[]⟩)), .d (.v (.int .i64 0))], [], none⟩,
   ⟨none, none, .store 2 (.t 17) (.t 98), [], none⟩])
 (.seq (.reg [⟨(some 99), none, .fieldA 0 (.t 17), [], none⟩,
   ⟨(some 100), none, .load none (.t 99), [], none⟩,
   ⟨(some 101), none, .mv (.t 1), [], none⟩,
   ⟨(some 102), none, .bin .eql (.t 100) (.t 101), [], none⟩])
 (.cond (.t 102)
 (.seq (.sem (.reg [⟨(some 103), none, .fieldA 1 (.t 17), [], none⟩,
   ⟨(some 104), none, .load none (.t 103), [], none⟩,
   ⟨(some 105), none, .mv (.t 2), [], none⟩,
   ⟨(some 106), none, .bin .eql (.t 104) (.t 105), [], none⟩,
   ⟨(some 107), none, .mv (.t 106), [], none⟩,
   ⟨(some 108), (some (107, true)), .call 8 [], [], none⟩,
   ⟨(some 109), none, .pick (.t 107) (.t 108) (kB false), [], none⟩,
   ⟨(some 8), none, .mv (.t 109), [], none⟩]))
 .ret)
 .skip))))
 (.reg [⟨(some 110), none, .bin .add (.t 95) (kI 1), [], none⟩,
   ⟨(some 95), none, .mv (.t 110), [], none⟩]))))))))
 (.seq (.reg [⟨(some 8), none, .mv (kB false), [], none⟩])
 .ret))))))))))⟩
theorem a6_ok : afn Try.prog 6 = some a6.er := by kernel_rfl
theorem F6_ok {x0 : (List Act)} {x1 : ByteArray} {x2 : Int} {x3 : Int} {r : Bool} (h : F6 x0 x1 x2 x3 = some r) : CallD Try.prog 6 [.c (.d (.sl (x0.map eAct))), .c (.d (.v (.string x1))), .c (.d (.v (.int .i64 x2))), .c (.d (.v (.int .i64 x3)))] [] (tupV [.c (.d (.v (.bool r)))]) [] := by
  refine callS a6_ok (by simp [a6]) ?_
  rw [F6] at h
  simp only [a6, VW.down, Nat.reduceEqDiff, reduceCtorEq, Nat.reduceAdd, Nat.reduceLeDiff, Nat.reduceLT, Nat.reduceBEq, Nat.reduceSub, EE.down]
  obtain ⟨o1, ho, h⟩ := Option.bind_eq_some_iff.1 h
  refine cutS (fun s => s = ⟨[(0, .one (.c (.d (.sl (x0.map eAct))))), (1, .one (.c (.d (.v (.string x1))))), (2, .one (.c (.d (.v (.int .i64 x2))))), (3, .one (.c (.d (.v (.int .i64 x3))))), (33, .one (.c (.d (.v (.bool o1)))))], []⟩) ?_ ?_
  · have h := ho
    clear ho
    simp only [VW.down, Nat.reduceEqDiff, reduceCtorEq, Nat.reduceAdd, Nat.reduceLeDiff, Nat.reduceLT, Nat.reduceBEq, Nat.reduceSub, EE.down]
    obtain ⟨t2, ht2, h⟩ := Option.bind_eq_some_iff.1 h
    refine callX_n [] (F7_ok ht2) ?_ ?_ ?_ ?_ ?_ ?_
    · first | rfl | simp [nrmA, nrmC, nrm, A1.ren, C.ren, rn, List.length_set]
    · simp [liveAll, A1.live, C.live]
    · rfl
    · decide
    · exact trivial
    simp only [VW.down, Nat.reduceEqDiff, reduceCtorEq, Nat.reduceAdd, Nat.reduceLeDiff, Nat.reduceLT, Nat.reduceBEq, Nat.reduceSub, EE.down]
    refine guardSB (fun g3 => ?_) (fun g3 => ?_)
    · have h := (if_pos g3).symm.trans h
      simp only [VW.down, Nat.reduceEqDiff, reduceCtorEq, Nat.reduceAdd, Nat.reduceLeDiff, Nat.reduceLT, Nat.reduceBEq, Nat.reduceSub, EE.down]
      obtain rfl := Option.some.inj h
      exact eM [] rfl
    · have h := (if_neg g3).symm.trans h
      simp only [VW.down, Nat.reduceEqDiff, reduceCtorEq, Nat.reduceAdd, Nat.reduceLeDiff, Nat.reduceLT, Nat.reduceBEq, Nat.reduceSub, EE.down]
      refine guardS (fun g4 => ?_) (fun g4 => ?_)
      · have h := (if_pos g4).symm.trans h
        simp only [VW.down, Nat.reduceEqDiff, reduceCtorEq, Nat.reduceAdd, Nat.reduceLeDiff, Nat.reduceLT, Nat.reduceBEq, Nat.reduceSub, EE.down]
        obtain rfl := Option.some.inj h
        exact eM [] rfl
      · have h := (if_neg g4).symm.trans h
        simp only [VW.down, Nat.reduceEqDiff, reduceCtorEq, Nat.reduceAdd, Nat.reduceLeDiff, Nat.reduceLT, Nat.reduceBEq, Nat.reduceSub, EE.down]
        refine guardS (fun g5 => ?_) (fun g5 => ?_)
        · have h := (if_pos g5).symm.trans h
          simp only [VW.down, Nat.reduceEqDiff, reduceCtorEq, Nat.reduceAdd, Nat.reduceLeDiff, Nat.reduceLT, Nat.reduceBEq, Nat.reduceSub, EE.down]
          obtain rfl := Option.some.inj h
          exact eM [] rfl
        · have h := (if_neg g5).symm.trans h
          simp only [VW.down, Nat.reduceEqDiff, reduceCtorEq, Nat.reduceAdd, Nat.reduceLeDiff, Nat.reduceLT, Nat.reduceBEq, Nat.reduceSub, EE.down]
          obtain rfl := Option.some.inj h
          exact eM [] rfl
  · rintro _ rfl
    clear ho
    simp only [VW.down, Nat.reduceEqDiff, reduceCtorEq, Nat.reduceAdd, Nat.reduceLeDiff, Nat.reduceLT, Nat.reduceBEq, Nat.reduceSub, EE.down]
    refine condB (fun c6 => ?_) (fun c6 => ?_)
    · have h := (if_pos c6).symm.trans h
      simp only [VW.down, Nat.reduceEqDiff, reduceCtorEq, Nat.reduceAdd, Nat.reduceLeDiff, Nat.reduceLT, Nat.reduceBEq, Nat.reduceSub, EE.down]
      obtain ⟨t7, ht7, h⟩ := Option.bind_eq_some_iff.1 h
      refine callX_n [] (F8_ok ht7) ?_ ?_ ?_ ?_ ?_ ?_
      · first | rfl | simp [nrmA, nrmC, nrm, A1.ren, C.ren, rn, List.length_set]
      · simp [liveAll, A1.live, C.live]
      · rfl
      · decide
      · exact trivial
      simp only [VW.down, Nat.reduceEqDiff, reduceCtorEq, Nat.reduceAdd, Nat.reduceLeDiff, Nat.reduceLT, Nat.reduceBEq, Nat.reduceSub, EE.down]
      obtain rfl := Option.some.inj h
      exact eF []
    · have h := (if_neg c6).symm.trans h
      simp only [VW.down, Nat.reduceEqDiff, reduceCtorEq, Nat.reduceAdd, Nat.reduceLeDiff, Nat.reduceLT, Nat.reduceBEq, Nat.reduceSub, EE.down]
      obtain ⟨t8, ht8, h⟩ := Option.bind_eq_some_iff.1 h
      refine callX_n [] (F9_ok ht8) ?_ ?_ ?_ ?_ ?_ ?_
      · first | rfl | simp [nrmA, nrmC, nrm, A1.ren, C.ren, rn, List.length_set]
      · simp [liveAll, A1.live, C.live]
      · rfl
      · decide
      · exact trivial
      simp only [VW.down, Nat.reduceEqDiff, reduceCtorEq, Nat.reduceAdd, Nat.reduceLeDiff, Nat.reduceLT, Nat.reduceBEq, Nat.reduceSub, EE.down]
      obtain ⟨o9, ho, h⟩ := Option.bind_eq_some_iff.1 h
      refine cutS (fun s => s = ⟨[(1, .one (.c (.d (.v (.string x1))))), (2, .one (.c (.d (.v (.int .i64 x2))))), (3, .one (.c (.d (.v (.int .i64 x3))))), (9, .one (.c (.pt 0 0)))], [some (.box [.d (.sl (((o9).Waiting).map eWorkItem)), .d (.sl (((o9).Active).map eWorkItem)), .d (.sl (((o9).Stuck).map eWorkItem)), .d (.sl (((o9).Backoff).map eWorkItem)), .d (.sl (((o9).Retries).map eWorkItem)), .d (.v (.int .i64 ((o9).Cycle)))])]⟩) ?_ ?_
      · have h := ho
        clear ho
        obtain ⟨_, hk, h⟩ := Option.bind_eq_some_iff.1 h
        have hk := ck_some hk
        simp only [VW.down, Nat.reduceEqDiff, reduceCtorEq, Nat.reduceAdd, Nat.reduceLeDiff, Nat.reduceLT, Nat.reduceBEq, Nat.reduceSub, EE.down]
        refine bL (fun j s => ∃ (o9_1 : Nat) (o9_0 : SchedQueue), (o9_1 ≤ x0.length ∧ j = x0.length - o9_1) ∧ s = ⟨[(1, .one (.c (.d (.v (.string x1))))), (2, .one (.c (.d (.v (.int .i64 x2))))), (3, .one (.c (.d (.v (.int .i64 x3))))), (9, .one (.c (.pt 0 0))), (36, .one (.c (.d (.sl (x0.map eAct))))), (37, .one (.c (.d (.v (.int .i64 ((x0.length : Int))))))), (38, .one (.c (.d (.v (.int .i64 ((o9_1 : Int)))))))], [some (.box [.d (.sl (((o9_0).Waiting).map eWorkItem)), .d (.sl (((o9_0).Active).map eWorkItem)), .d (.sl (((o9_0).Stuck).map eWorkItem)), .d (.sl (((o9_0).Backoff).map eWorkItem)), .d (.sl (((o9_0).Retries).map eWorkItem)), .d (.v (.int .i64 ((o9_0).Cycle)))])]⟩ ∧ F6_l9 (x0.drop o9_1) o9_1 o9_0 = some o9) (x0.length - 0) [some 0] ⟨0, (⟨[], [], [], [], [], 0⟩ : SchedQueue), ⟨hk.1, rfl⟩, rfl, h⟩ ?_
        rintro _ _ ⟨o9_1, o9_0, ⟨hi, rfl⟩, rfl, h⟩
        simp only [VW.down, Nat.reduceEqDiff, reduceCtorEq, Nat.reduceAdd, Nat.reduceLeDiff, Nat.reduceLT, Nat.reduceBEq, Nat.reduceSub, EE.down]
        refine condS (fun c10 => ?_) (fun c10 => ?_)
        · obtain ⟨xo9, hxo9, hd⟩ := countY c10
          rw [hd, F6_l9] at h
          simp only [VW.down, Nat.reduceEqDiff, reduceCtorEq, Nat.reduceAdd, Nat.reduceLeDiff, Nat.reduceLT, Nat.reduceBEq, Nat.reduceSub, EE.down]
          refine t_idxF (enc := eAct) (xs := x0) rfl rfl hxo9 rfl ?_
          simp only [VW.down, Nat.reduceEqDiff, reduceCtorEq, Nat.reduceAdd, Nat.reduceLeDiff, Nat.reduceLT, Nat.reduceBEq, Nat.reduceSub, EE.down]
          obtain ⟨t11, ht11, h⟩ := Option.bind_eq_some_iff.1 h
          refine callX_n [] (F11_ok ht11) ?_ ?_ ?_ ?_ ?_ ?_
          · first | rfl | simp [nrmA, nrmC, nrm, A1.ren, C.ren, rn, List.length_set]
          · simp [liveAll, A1.live, C.live]
          · rfl
          · decide
          · exact trivial
          simp only [VW.down, Nat.reduceEqDiff, reduceCtorEq, Nat.reduceAdd, Nat.reduceLeDiff, Nat.reduceLT, Nat.reduceBEq, Nat.reduceSub, EE.down]
          rw [wrapN (by omega)]
          exact eL' (x0.length - (o9_1 + 1)) [some 0] ⟨o9_1 + 1, (⟨t11.1, t11.2.1, t11.2.2.1, t11.2.2.2.1, t11.2.2.2.2.1, t11.2.2.2.2.2.1⟩ : SchedQueue), ⟨by omega, rfl⟩, rfl, h⟩ (by omega)
        · rw [countN c10, F6_l9] at h
          simp only [VW.down, Nat.reduceEqDiff, reduceCtorEq, Nat.reduceAdd, Nat.reduceLeDiff, Nat.reduceLT, Nat.reduceBEq, Nat.reduceSub, EE.down]
          obtain rfl := Option.some.inj h
          exact eM [some 0] rfl
      · rintro _ rfl
        clear ho
        simp only [VW.down, Nat.reduceEqDiff, reduceCtorEq, Nat.reduceAdd, Nat.reduceLeDiff, Nat.reduceLT, Nat.reduceBEq, Nat.reduceSub, EE.down]
        obtain ⟨o13, ho, h⟩ := Option.bind_eq_some_iff.1 h
        refine cutS (fun s => s = ⟨[(1, .one (.c (.d (.v (.string x1))))), (2, .one (.c (.d (.v (.int .i64 x2))))), (3, .one (.c (.d (.v (.int .i64 x3))))), (12, .one (.c (.pt 0 0)))], [some (.box [.d (.sl (o13.1.map eWorkItem)), .d (.sl (o13.2.1.map eWorkItem)), .d (.sl (o13.2.2.1.map eWorkItem)), .d (.sl (o13.2.2.2.1.map eWorkItem)), .d (.sl (o13.2.2.2.2.map eWorkItem)), .d (.v (.int .i64 (((⟨(o9).Waiting, (o9).Active, (o9).Stuck, (o9).Backoff, (o9).Retries, (o9).Cycle⟩ : SchedQueue)).Cycle)))])]⟩) ?_ ?_
        · have h := ho
          clear ho
          simp only [VW.down, Nat.reduceEqDiff, reduceCtorEq, Nat.reduceAdd, Nat.reduceLeDiff, Nat.reduceLT, Nat.reduceBEq, Nat.reduceSub, EE.down]
          obtain ⟨t14, ht14, h⟩ := Option.bind_eq_some_iff.1 h
          refine callX_n [] (F18_ok ht14) ?_ ?_ ?_ ?_ ?_ ?_
          · first | rfl | simp [nrmA, nrmC, nrm, A1.ren, C.ren, rn, List.length_set]
          · simp [liveAll, A1.live, C.live]
          · rfl
          · decide
          · exact trivial
          simp only [VW.down, Nat.reduceEqDiff, reduceCtorEq, Nat.reduceAdd, Nat.reduceLeDiff, Nat.reduceLT, Nat.reduceBEq, Nat.reduceSub, EE.down]
          obtain rfl := Option.some.inj h
          exact eM [some 6] rfl
        · rintro _ rfl
          clear ho
          simp only [VW.down, Nat.reduceEqDiff, reduceCtorEq, Nat.reduceAdd, Nat.reduceLeDiff, Nat.reduceLT, Nat.reduceBEq, Nat.reduceSub, EE.down]
          obtain ⟨t15, ht15, h⟩ := Option.bind_eq_some_iff.1 h
          refine callX_n [] (F18_ok ht15) ?_ ?_ ?_ ?_ ?_ ?_
          · first | rfl | simp [nrmA, nrmC, nrm, A1.ren, C.ren, rn, List.length_set]
          · simp [liveAll, A1.live, C.live]
          · rfl
          · decide
          · exact trivial
          simp only [VW.down, Nat.reduceEqDiff, reduceCtorEq, Nat.reduceAdd, Nat.reduceLeDiff, Nat.reduceLT, Nat.reduceBEq, Nat.reduceSub, EE.down]
          obtain ⟨t16, ht16, h⟩ := Option.bind_eq_some_iff.1 h
          refine callX_n [] (F19_ok ht16) ?_ ?_ ?_ ?_ ?_ ?_
          · first | rfl | simp [nrmA, nrmC, nrm, A1.ren, C.ren, rn, List.length_set]
          · simp [liveAll, A1.live, C.live]
          · rfl
          · decide
          · exact trivial
          simp only [VW.down, Nat.reduceEqDiff, reduceCtorEq, Nat.reduceAdd, Nat.reduceLeDiff, Nat.reduceLT, Nat.reduceBEq, Nat.reduceSub, EE.down]
          obtain ⟨t17, ht17, h⟩ := Option.bind_eq_some_iff.1 h
          refine callX_bor (F19_ok ht17) (by simp only [borAs, bors, hp, List.getElem?_cons_zero, List.getElem?_cons_succ, Option.join_some, List.drop_zero, bor_full', true_and, Nat.zero_add, List.length_map, Nat.le_refl, nrm, List.length_cons, List.length_nil, Nat.reduceAdd, Nat.reduceLeDiff, List.take_succ_cons, List.take_zero, List.take_nil, List.map_cons, List.map_nil, List.length_set, EE.down]) rfl ?_
          simp only [VW.down, Nat.reduceEqDiff, reduceCtorEq, Nat.reduceAdd, Nat.reduceLeDiff, Nat.reduceLT, Nat.reduceBEq, Nat.reduceSub, EE.down]
          obtain ⟨o18, ho, h⟩ := Option.bind_eq_some_iff.1 h
          refine cutS (fun s => s = ⟨[(1, .one (.c (.d (.v (.string x1))))), (2, .one (.c (.d (.v (.int .i64 x2))))), (12, .one (.c (.pt 0 0))), (14, .one (.c (.d (.v (.int .i64 t16))))), (89, .one (.c (.d (.v (.bool o18)))))], [some (.box [.d (.sl (o13.1.map eWorkItem)), .d (.sl (o13.2.1.map eWorkItem)), .d (.sl (o13.2.2.1.map eWorkItem)), .d (.sl (o13.2.2.2.1.map eWorkItem)), .d (.sl (o13.2.2.2.2.map eWorkItem)), .d (.v (.int .i64 (((⟨(o9).Waiting, (o9).Active, (o9).Stuck, (o9).Backoff, (o9).Retries, (o9).Cycle⟩ : SchedQueue)).Cycle)))])]⟩) ?_ ?_
          · have h := ho
            clear ho
            simp only [VW.down, Nat.reduceEqDiff, reduceCtorEq, Nat.reduceAdd, Nat.reduceLeDiff, Nat.reduceLT, Nat.reduceBEq, Nat.reduceSub, EE.down]
            refine guardS (fun g19 => ?_) (fun g19 => ?_)
            · have h := (if_pos g19).symm.trans h
              simp only [VW.down, Nat.reduceEqDiff, reduceCtorEq, Nat.reduceAdd, Nat.reduceLeDiff, Nat.reduceLT, Nat.reduceBEq, Nat.reduceSub, EE.down]
              obtain rfl := Option.some.inj h
              exact eM [some 0] rfl
            · have h := (if_neg g19).symm.trans h
              simp only [VW.down, Nat.reduceEqDiff, reduceCtorEq, Nat.reduceAdd, Nat.reduceLeDiff, Nat.reduceLT, Nat.reduceBEq, Nat.reduceSub, EE.down]
              refine guardS (fun g20 => ?_) (fun g20 => ?_)
              · have h := (if_pos g20).symm.trans h
                simp only [VW.down, Nat.reduceEqDiff, reduceCtorEq, Nat.reduceAdd, Nat.reduceLeDiff, Nat.reduceLT, Nat.reduceBEq, Nat.reduceSub, EE.down]
                obtain rfl := Option.some.inj h
                exact eM [some 0] rfl
              · have h := (if_neg g20).symm.trans h
                simp only [VW.down, Nat.reduceEqDiff, reduceCtorEq, Nat.reduceAdd, Nat.reduceLeDiff, Nat.reduceLT, Nat.reduceBEq, Nat.reduceSub, EE.down]
                refine guardS (fun g21 => ?_) (fun g21 => ?_)
                · have h := (if_pos g21).symm.trans h
                  simp only [VW.down, Nat.reduceEqDiff, reduceCtorEq, Nat.reduceAdd, Nat.reduceLeDiff, Nat.reduceLT, Nat.reduceBEq, Nat.reduceSub, EE.down]
                  obtain rfl := Option.some.inj h
                  exact eM [some 0] rfl
                · have h := (if_neg g21).symm.trans h
                  simp only [VW.down, Nat.reduceEqDiff, reduceCtorEq, Nat.reduceAdd, Nat.reduceLeDiff, Nat.reduceLT, Nat.reduceBEq, Nat.reduceSub, EE.down]
                  obtain ⟨t22, ht22, h⟩ := Option.bind_eq_some_iff.1 h
                  refine callX_n [] (F21_ok ht22) ?_ ?_ ?_ ?_ ?_ ?_
                  · first | rfl | simp [nrmA, nrmC, nrm, A1.ren, C.ren, rn, List.length_set]
                  · simp [liveAll, A1.live, C.live]
                  · rfl
                  · decide
                  · exact trivial
                  simp only [VW.down, Nat.reduceEqDiff, reduceCtorEq, Nat.reduceAdd, Nat.reduceLeDiff, Nat.reduceLT, Nat.reduceBEq, Nat.reduceSub, EE.down]
                  obtain ⟨t23, ht23, h⟩ := Option.bind_eq_some_iff.1 h
                  refine callX_n [] (F20_ok ht23) ?_ ?_ ?_ ?_ ?_ ?_
                  · first | rfl | simp [nrmA, nrmC, nrm, A1.ren, C.ren, rn, List.length_set]
                  · simp [liveAll, A1.live, C.live]
                  · rfl
                  · decide
                  · exact trivial
                  simp only [VW.down, Nat.reduceEqDiff, reduceCtorEq, Nat.reduceAdd, Nat.reduceLeDiff, Nat.reduceLT, Nat.reduceBEq, Nat.reduceSub, EE.down]
                  obtain rfl := Option.some.inj h
                  exact eM [some 0] rfl
          · rintro _ rfl
            clear ho
            simp only [VW.down, Nat.reduceEqDiff, reduceCtorEq, Nat.reduceAdd, Nat.reduceLeDiff, Nat.reduceLT, Nat.reduceBEq, Nat.reduceSub, EE.down]
            refine condB (fun c24 => ?_) (fun c24 => ?_)
            · have h := (if_pos c24).symm.trans h
              simp only [VW.down, Nat.reduceEqDiff, reduceCtorEq, Nat.reduceAdd, Nat.reduceLeDiff, Nat.reduceLT, Nat.reduceBEq, Nat.reduceSub, EE.down]
              obtain rfl := Option.some.inj h
              exact eF []
            · have h := (if_neg c24).symm.trans h
              simp only [VW.down, Nat.reduceEqDiff, reduceCtorEq, Nat.reduceAdd, Nat.reduceLeDiff, Nat.reduceLT, Nat.reduceBEq, Nat.reduceSub, EE.down]
              obtain ⟨t25, ht25, h⟩ := Option.bind_eq_some_iff.1 h
              refine callX_n [] (F21_ok ht25) ?_ ?_ ?_ ?_ ?_ ?_
              · first | rfl | simp [nrmA, nrmC, nrm, A1.ren, C.ren, rn, List.length_set]
              · simp [liveAll, A1.live, C.live]
              · rfl
              · decide
              · exact trivial
              simp only [VW.down, Nat.reduceEqDiff, reduceCtorEq, Nat.reduceAdd, Nat.reduceLeDiff, Nat.reduceLT, Nat.reduceBEq, Nat.reduceSub, EE.down]
              obtain ⟨o26, ho, h⟩ := Option.bind_eq_some_iff.1 h
              refine cutS (fun s => ∃ po26, o26 = Sum.inr po26 ∧ s = ⟨[], []⟩) ?_ ?_
              · have h0o26 := h
                have h := ho
                clear ho
                obtain ⟨_, hk, h⟩ := Option.bind_eq_some_iff.1 h
                have hk := ck_some hk
                simp only [VW.down, Nat.reduceEqDiff, reduceCtorEq, Nat.reduceAdd, Nat.reduceLeDiff, Nat.reduceLT, Nat.reduceBEq, Nat.reduceSub, EE.down]
                refine bL (fun j s => ∃ (o26_0 : Nat), (o26_0 ≤ (((t25).Active)).length ∧ j = (((t25).Active)).length - o26_0) ∧ s = ⟨[(1, .one (.c (.d (.v (.string x1))))), (2, .one (.c (.d (.v (.int .i64 x2))))), (93, .one (.c (.d (.sl (((t25).Active).map eWorkItem))))), (94, .one (.c (.d (.v (.int .i64 ((((t25).Active).length : Int))))))), (95, .one (.c (.d (.v (.int .i64 ((o26_0 : Int)))))))], []⟩ ∧ F6_l26 t25 x1 x2 ((((t25).Active)).drop o26_0) o26_0 = some o26) ((((t25).Active)).length - 0) [] ⟨0, ⟨hk.1, rfl⟩, rfl, h⟩ ?_
                rintro _ _ ⟨o26_0, ⟨hi, rfl⟩, rfl, h⟩
                simp only [VW.down, Nat.reduceEqDiff, reduceCtorEq, Nat.reduceAdd, Nat.reduceLeDiff, Nat.reduceLT, Nat.reduceBEq, Nat.reduceSub, EE.down]
                refine condS (fun c27 => ?_) (fun c27 => ?_)
                · obtain ⟨xo26, hxo26, hd⟩ := countY c27
                  rw [hd, F6_l26] at h
                  simp only [VW.down, Nat.reduceEqDiff, reduceCtorEq, Nat.reduceAdd, Nat.reduceLeDiff, Nat.reduceLT, Nat.reduceBEq, Nat.reduceSub, EE.down]
                  obtain ⟨y28, hy28, h⟩ := Option.bind_eq_some_iff.1 h
                  refine t_idxF (enc := eWorkItem) (xs := ((t25).Active)) rfl rfl hy28 rfl ?_
                  simp only [VW.down, Nat.reduceEqDiff, reduceCtorEq, Nat.reduceAdd, Nat.reduceLeDiff, Nat.reduceLT, Nat.reduceBEq, Nat.reduceSub, EE.down]
                  refine condS (fun c29 => ?_) (fun c29 => ?_)
                  · have h := (if_pos c29).symm.trans h
                    simp only [VW.down, Nat.reduceEqDiff, reduceCtorEq, Nat.reduceAdd, Nat.reduceLeDiff, Nat.reduceLT, Nat.reduceBEq, Nat.reduceSub, EE.down]
                    obtain ⟨o30, ho, h⟩ := Option.bind_eq_some_iff.1 h
                    refine cutS (fun s => s = ⟨[(8, .one (.c (.d (.v (.bool o30)))))], []⟩) ?_ ?_
                    · have h := ho
                      clear ho
                      simp only [VW.down, Nat.reduceEqDiff, reduceCtorEq, Nat.reduceAdd, Nat.reduceLeDiff, Nat.reduceLT, Nat.reduceBEq, Nat.reduceSub, EE.down]
                      refine guardS (fun g31 => ?_) (fun g31 => ?_)
                      · have h := (if_pos g31).symm.trans h
                        simp only [VW.down, Nat.reduceEqDiff, reduceCtorEq, Nat.reduceAdd, Nat.reduceLeDiff, Nat.reduceLT, Nat.reduceBEq, Nat.reduceSub, EE.down]
                        obtain ⟨t32, ht32, h⟩ := Option.bind_eq_some_iff.1 h
                        refine callX_n [] (F8_ok ht32) ?_ ?_ ?_ ?_ ?_ ?_
                        · first | rfl | simp [nrmA, nrmC, nrm, A1.ren, C.ren, rn, List.length_set]
                        · simp [liveAll, A1.live, C.live]
                        · rfl
                        · decide
                        · exact trivial
                        simp only [VW.down, Nat.reduceEqDiff, reduceCtorEq, Nat.reduceAdd, Nat.reduceLeDiff, Nat.reduceLT, Nat.reduceBEq, Nat.reduceSub, EE.down]
                        obtain rfl := Option.some.inj h
                        exact eM [] rfl
                      · have h := (if_neg g31).symm.trans h
                        simp only [VW.down, Nat.reduceEqDiff, reduceCtorEq, Nat.reduceAdd, Nat.reduceLeDiff, Nat.reduceLT, Nat.reduceBEq, Nat.reduceSub, EE.down]
                        obtain rfl := Option.some.inj h
                        exact eM [] rfl
                    · rintro _ rfl
                      clear ho
                      simp only [VW.down, Nat.reduceEqDiff, reduceCtorEq, Nat.reduceAdd, Nat.reduceLeDiff, Nat.reduceLT, Nat.reduceBEq, Nat.reduceSub, EE.down]
                      obtain ⟨fh0o26, hfh0o26, rfl⟩ := Option.map_eq_some_iff.1 h
                      have h := hfh0o26.trans h0o26
                      obtain rfl := Option.some.inj h
                      exact eF []
                  · have h := (if_neg c29).symm.trans h
                    simp only [VW.down, Nat.reduceEqDiff, reduceCtorEq, Nat.reduceAdd, Nat.reduceLeDiff, Nat.reduceLT, Nat.reduceBEq, Nat.reduceSub, EE.down]
                    rw [wrapN (by omega)]
                    exact eL' ((((t25).Active)).length - (o26_0 + 1)) [] ⟨o26_0 + 1, ⟨by omega, rfl⟩, rfl, h⟩ (by omega)
                · rw [countN c27, F6_l26] at h
                  simp only [VW.down, Nat.reduceEqDiff, reduceCtorEq, Nat.reduceAdd, Nat.reduceLeDiff, Nat.reduceLT, Nat.reduceBEq, Nat.reduceSub, EE.down]
                  obtain rfl := Option.some.inj h
                  exact eM [] ⟨_, rfl, rfl⟩
              · rintro _ ⟨po26, rfl, rfl⟩
                clear ho
                dsimp only at h
                simp only [VW.down, Nat.reduceEqDiff, reduceCtorEq, Nat.reduceAdd, Nat.reduceLeDiff, Nat.reduceLT, Nat.reduceBEq, Nat.reduceSub, EE.down]
                obtain rfl := Option.some.inj h
                exact eF []

end Go.Proofs.Ytdpbdbclninjaaa
