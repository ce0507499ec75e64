/- Each Go function as a function over typed data, and its walk. -/
import Derived.Test.YtihhlgbcbmoblaaCX2
namespace Go.Proofs.Ytihhlgbcbmoblaa
open Go Go.Fw Go.Shelf
set_option maxRecDepth 100000
set_option maxHeartbeats 4000000
set_option linter.unusedSimpArgs false
set_option linter.unusedVariables false
/- orchestrator/orchestratorlaw54.NodelifeRecovers -/
def F5 (x0 : Node) (x1 : Int) (x2 : Int) (x3 : Int) : Option (Bool) := (((if 50 < (x0.Taints.length : Int) then some true else (if x1 < 0 then some true else (if 250000000000 < x1 then some true else (if x2 < 0 then some true else (if 250000000000 < x2 then some true else (if x3 < 0 then some true else some (decide (250000000000 < x3))))))))).bind fun o1 => (if o1 = true then (F7).bind fun t9 => some t9 else (((F9 ((⟨x0.Meta, x0.Capacity, x0.MaxPods, x0.Cordoned, x0.Taints, x0.Ready, x1, x0.LowMem, x0.LowDisk, x0.Images⟩ : Node)) ((IntKind.i64.wrap (x1 + x2))) x2).bind fun t11 => some ((t11.1, t11.2.1, t11.2.2.1, t11.2.2.2.1, t11.2.2.2.2.1, t11.2.2.2.2.2))).bind fun o10 => (((F9 ((⟨(⟨x0.Meta.Kind, x0.Meta.Namespace, x0.Meta.Name, x0.Meta.Uid, x0.Meta.Version, x0.Meta.Generation, x0.Meta.Created, x0.Meta.Deleting, x0.Meta.DeleteAt, o10.1, o10.2.1, o10.2.2.1, o10.2.2.2.1⟩ : Meta), x0.Capacity, x0.MaxPods, x0.Cordoned, o10.2.2.2.2.1, decide (¬ ((if 1000000000000 < (if x2 < 0 then 0 else x2) then 1000000000000 else (if x2 < 0 then 0 else x2)) < (IntKind.i64.wrap (((if 1000000000000 < (if ((IntKind.i64.wrap (x1 + x2))) < 0 then 0 else ((IntKind.i64.wrap (x1 + x2)))) then 1000000000000 else (if ((IntKind.i64.wrap (x1 + x2))) < 0 then 0 else ((IntKind.i64.wrap (x1 + x2)))))) - ((if 1000000000000 < (if x1 < 0 then 0 else x1) then 1000000000000 else (if x1 < 0 then 0 else x1))))))), x1, x0.LowMem, x0.LowDisk, o10.2.2.2.2.2⟩ : Node)) ((IntKind.i64.wrap (((IntKind.i64.wrap (x1 + x2))) + 1))) x2).bind fun t13 => some ((t13.1, t13.2.1, t13.2.2.1, t13.2.2.2.1, t13.2.2.2.2.1, t13.2.2.2.2.2))).bind fun o12 => (F9 ((⟨(⟨x0.Meta.Kind, x0.Meta.Namespace, x0.Meta.Name, x0.Meta.Uid, x0.Meta.Version, x0.Meta.Generation, x0.Meta.Created, x0.Meta.Deleting, x0.Meta.DeleteAt, o12.1, o12.2.1, o12.2.2.1, o12.2.2.2.1⟩ : Meta), x0.Capacity, x0.MaxPods, x0.Cordoned, o12.2.2.2.2.1, decide (¬ ((if 1000000000000 < (if x2 < 0 then 0 else x2) then 1000000000000 else (if x2 < 0 then 0 else x2)) < (IntKind.i64.wrap (((if 1000000000000 < (if ((IntKind.i64.wrap (((IntKind.i64.wrap (x1 + x2))) + 1))) < 0 then 0 else ((IntKind.i64.wrap (((IntKind.i64.wrap (x1 + x2))) + 1)))) then 1000000000000 else (if ((IntKind.i64.wrap (((IntKind.i64.wrap (x1 + x2))) + 1))) < 0 then 0 else ((IntKind.i64.wrap (((IntKind.i64.wrap (x1 + x2))) + 1)))))) - ((if 1000000000000 < (if x1 < 0 then 0 else x1) then 1000000000000 else (if x1 < 0 then 0 else x1))))))), x1, x0.LowMem, x0.LowDisk, o12.2.2.2.2.2⟩ : Node)) ((IntKind.i64.wrap (((IntKind.i64.wrap (((IntKind.i64.wrap (x1 + x2))) + 1))) + x3))) x2).bind fun t14 => (((if ¬ (¬ ((if 1000000000000 < (if x2 < 0 then 0 else x2) then 1000000000000 else (if x2 < 0 then 0 else x2)) < (IntKind.i64.wrap (((if 1000000000000 < (if ((IntKind.i64.wrap (x1 + x2))) < 0 then 0 else ((IntKind.i64.wrap (x1 + x2)))) then 1000000000000 else (if ((IntKind.i64.wrap (x1 + x2))) < 0 then 0 else ((IntKind.i64.wrap (x1 + x2)))))) - ((if 1000000000000 < (if x1 < 0 then 0 else x1) then 1000000000000 else (if x1 < 0 then 0 else x1))))))) then some true else (if ¬ ((if 1000000000000 < (if x2 < 0 then 0 else x2) then 1000000000000 else (if x2 < 0 then 0 else x2)) < (IntKind.i64.wrap (((if 1000000000000 < (if ((IntKind.i64.wrap (((IntKind.i64.wrap (x1 + x2))) + 1))) < 0 then 0 else ((IntKind.i64.wrap (((IntKind.i64.wrap (x1 + x2))) + 1)))) then 1000000000000 else (if ((IntKind.i64.wrap (((IntKind.i64.wrap (x1 + x2))) + 1))) < 0 then 0 else ((IntKind.i64.wrap (((IntKind.i64.wrap (x1 + x2))) + 1)))))) - ((if 1000000000000 < (if x1 < 0 then 0 else x1) then 1000000000000 else (if x1 < 0 then 0 else x1)))))) then some true else (if ¬ ((if 1000000000000 < (if x2 < 0 then 0 else x2) then 1000000000000 else (if x2 < 0 then 0 else x2)) < (IntKind.i64.wrap (((if 1000000000000 < (if ((IntKind.i64.wrap (((IntKind.i64.wrap (((IntKind.i64.wrap (x1 + x2))) + 1))) + x3))) < 0 then 0 else ((IntKind.i64.wrap (((IntKind.i64.wrap (((IntKind.i64.wrap (x1 + x2))) + 1))) + x3)))) then 1000000000000 else (if ((IntKind.i64.wrap (((IntKind.i64.wrap (((IntKind.i64.wrap (x1 + x2))) + 1))) + x3))) < 0 then 0 else ((IntKind.i64.wrap (((IntKind.i64.wrap (((IntKind.i64.wrap (x1 + x2))) + 1))) + x3)))))) - ((if 1000000000000 < (if x1 < 0 then 0 else x1) then 1000000000000 else (if x1 < 0 then 0 else x1)))))) then some true else (if ¬ ((o12.2.2.2.2.1.length : Int) = (IntKind.i64.wrap (((o10.2.2.2.2.1.length : Int)) + 2))) then some true else (F17 o12.2.2.2.2.1 t14.2.2.2.2.1).bind fun t20 => some (nb t20)))))).bind fun o15 => (if o15 = true then some false else ((some (())).bind fun o22 => (F9 ((⟨(⟨x0.Meta.Kind, x0.Meta.Namespace, x0.Meta.Name, x0.Meta.Uid, x0.Meta.Version, x0.Meta.Generation, x0.Meta.Created, x0.Meta.Deleting, x0.Meta.DeleteAt, t14.1, t14.2.1, t14.2.2.1, t14.2.2.2.1⟩ : Meta), x0.Capacity, x0.MaxPods, x0.Cordoned, t14.2.2.2.2.1, decide (¬ ((if 1000000000000 < (if x2 < 0 then 0 else x2) then 1000000000000 else (if x2 < 0 then 0 else x2)) < (IntKind.i64.wrap (((if 1000000000000 < (if ((IntKind.i64.wrap (((IntKind.i64.wrap (((IntKind.i64.wrap (x1 + x2))) + 1))) + x3))) < 0 then 0 else ((IntKind.i64.wrap (((IntKind.i64.wrap (((IntKind.i64.wrap (x1 + x2))) + 1))) + x3)))) then 1000000000000 else (if ((IntKind.i64.wrap (((IntKind.i64.wrap (((IntKind.i64.wrap (x1 + x2))) + 1))) + x3))) < 0 then 0 else ((IntKind.i64.wrap (((IntKind.i64.wrap (((IntKind.i64.wrap (x1 + x2))) + 1))) + x3)))))) - ((if 1000000000000 < (if x1 < 0 then 0 else x1) then 1000000000000 else (if x1 < 0 then 0 else x1))))))), (IntKind.i64.wrap (((IntKind.i64.wrap (((IntKind.i64.wrap (x1 + x2))) + 2))) + x3)), x0.LowMem, x0.LowDisk, t14.2.2.2.2.2⟩ : Node)) ((IntKind.i64.wrap (((IntKind.i64.wrap (((IntKind.i64.wrap (x1 + x2))) + 2))) + x3))) x2).bind fun t23 => (((F7).bind fun t25 => (if t25 = true then (F8 ((⟨(⟨x0.Meta.Kind, x0.Meta.Namespace, x0.Meta.Name, x0.Meta.Uid, x0.Meta.Version, x0.Meta.Generation, x0.Meta.Created, x0.Meta.Deleting, x0.Meta.DeleteAt, o10.1, o10.2.1, o10.2.2.1, o10.2.2.2.1⟩ : Meta), x0.Capacity, x0.MaxPods, x0.Cordoned, o10.2.2.2.2.1, decide (¬ ((if 1000000000000 < (if x2 < 0 then 0 else x2) then 1000000000000 else (if x2 < 0 then 0 else x2)) < (IntKind.i64.wrap (((if 1000000000000 < (if ((IntKind.i64.wrap (x1 + x2))) < 0 then 0 else ((IntKind.i64.wrap (x1 + x2)))) then 1000000000000 else (if ((IntKind.i64.wrap (x1 + x2))) < 0 then 0 else ((IntKind.i64.wrap (x1 + x2)))))) - ((if 1000000000000 < (if x1 < 0 then 0 else x1) then 1000000000000 else (if x1 < 0 then 0 else x1))))))), (IntKind.i64.wrap (((IntKind.i64.wrap (((IntKind.i64.wrap (x1 + x2))) + 2))) + x3)), x0.LowMem, x0.LowDisk, o10.2.2.2.2.2⟩ : Node)) ((⟨(⟨x0.Meta.Kind, x0.Meta.Namespace, x0.Meta.Name, x0.Meta.Uid, x0.Meta.Version, x0.Meta.Generation, x0.Meta.Created, x0.Meta.Deleting, x0.Meta.DeleteAt, t23.1, t23.2.1, t23.2.2.1, t23.2.2.2.1⟩ : Meta), x0.Capacity, x0.MaxPods, x0.Cordoned, t23.2.2.2.2.1, decide (¬ ((if 1000000000000 < (if x2 < 0 then 0 else x2) then 1000000000000 else (if x2 < 0 then 0 else x2)) < (IntKind.i64.wrap (((if 1000000000000 < (if ((IntKind.i64.wrap (((IntKind.i64.wrap (((IntKind.i64.wrap (x1 + x2))) + 2))) + x3))) < 0 then 0 else ((IntKind.i64.wrap (((IntKind.i64.wrap (((IntKind.i64.wrap (x1 + x2))) + 2))) + x3)))) then 1000000000000 else (if ((IntKind.i64.wrap (((IntKind.i64.wrap (((IntKind.i64.wrap (x1 + x2))) + 2))) + x3))) < 0 then 0 else ((IntKind.i64.wrap (((IntKind.i64.wrap (((IntKind.i64.wrap (x1 + x2))) + 2))) + x3)))))) - ((if 1000000000000 < (if ((IntKind.i64.wrap (((IntKind.i64.wrap (((IntKind.i64.wrap (x1 + x2))) + 2))) + x3))) < 0 then 0 else ((IntKind.i64.wrap (((IntKind.i64.wrap (((IntKind.i64.wrap (x1 + x2))) + 2))) + x3)))) then 1000000000000 else (if ((IntKind.i64.wrap (((IntKind.i64.wrap (((IntKind.i64.wrap (x1 + x2))) + 2))) + x3))) < 0 then 0 else ((IntKind.i64.wrap (((IntKind.i64.wrap (((IntKind.i64.wrap (x1 + x2))) + 2))) + x3)))))))))), ((IntKind.i64.wrap (((IntKind.i64.wrap (((IntKind.i64.wrap (x1 + x2))) + 2))) + x3))), x0.LowMem, x0.LowDisk, t23.2.2.2.2.2⟩ : Node))).bind fun t27 => some t27 else some false)).bind fun o24 => some o24))))))))
def a5 : AFn := ⟨116, [(.tmp 8)],
 (.seq (.reg [⟨(some 4), none, .box (.t 0), [], (.new [])⟩,
   ⟨(some 8), none, .mv (kB false), [], (.new [])⟩])
 (.seq (.seq (.sem (.reg [⟨(some 13), none, .fieldA 18 (.t 4), [], (.new [])⟩,
   ⟨(some 14), none, .load none (.t 13), [], (.new [])⟩,
   ⟨(some 15), none, .len (.t 14), [], (.new [])⟩,
   ⟨(some 16), none, .bin .gtr (.t 15) (kI 50), [], (.new [])⟩,
   ⟨(some 17), none, .mv (.t 16), [], (.new [])⟩,
   ⟨(some 18), (some (17, false)), .mv (.t 1), [], (.new [])⟩,
   ⟨(some 19), (some (17, false)), .bin .lss (.t 18) (kI 0), [], (.new [])⟩,
   ⟨(some 20), none, .pick (.t 17) (kB true) (.t 19), [], (.new [])⟩,
   ⟨(some 21), none, .mv (.t 20), [], (.new [])⟩,
   ⟨(some 22), (some (21, false)), .mv (.t 1), [], (.new [])⟩,
   ⟨(some 23), (some (21, false)), .bin .gtr (.t 22) (kI 250000000000), [], (.new [])⟩,
   ⟨(some 24), none, .pick (.t 21) (kB true) (.t 23), [], (.new [])⟩,
   ⟨(some 25), none, .mv (.t 24), [], (.new [])⟩,
   ⟨(some 26), (some (25, false)), .mv (.t 2), [], (.new [])⟩,
   ⟨(some 27), (some (25, false)), .bin .lss (.t 26) (kI 0), [], (.new [])⟩,
   ⟨(some 28), none, .pick (.t 25) (kB true) (.t 27), [], (.new [])⟩,
   ⟨(some 29), none, .mv (.t 28), [], (.new [])⟩,
   ⟨(some 30), (some (29, false)), .mv (.t 2), [], (.new [])⟩,
   ⟨(some 31), (some (29, false)), .bin .gtr (.t 30) (kI 250000000000), [], (.new [])⟩,
   ⟨(some 32), none, .pick (.t 29) (kB true) (.t 31), [], (.new [])⟩,
   ⟨(some 33), none, .mv (.t 32), [], (.new [])⟩,
   ⟨(some 34), (some (33, false)), .mv (.t 3), [], (.new [])⟩,
   ⟨(some 35), (some (33, false)), .bin .lss (.t 34) (kI 0), [], (.new [])⟩,
   ⟨(some 36), none, .pick (.t 33) (kB true) (.t 35), [], (.new [])⟩,
   ⟨(some 37), none, .mv (.t 36), [], (.new [])⟩,
   ⟨(some 38), (some (37, false)), .mv (.t 3), [], (.new [])⟩,
   ⟨(some 39), (some (37, false)), .bin .gtr (.t 38) (kI 250000000000), [], (.new [])⟩,
   ⟨(some 40), none, .pick (.t 37) (kB true) (.t 39), [], (.new [])⟩]))
 (.cond (.t 40)
 (.seq (.reg [⟨(some 41), none, .call 7 [], [], (.new [])⟩,
   ⟨(some 8), none, .mv (.t 41), [], (.new [])⟩])
 .ret)
 .skip))
 (.seq (.reg [⟨(some 42), none, .mv (.t 1), [], (.new [])⟩,
   ⟨(some 43), none, .fieldA 20 (.t 4), [], (.new [])⟩,
   ⟨none, none, .store 1 (.t 43) (.t 42), [], (.lone [4])⟩])
 (.seq (.sem (.reg [⟨(some 44), none, .load (some 24) (.t 4), [], (.new [])⟩,
   ⟨(some 45), none, .mv (.t 1), [], (.new [])⟩,
   ⟨(some 46), none, .mv (.t 2), [], (.new [])⟩,
   ⟨(some 47), none, .bin .add (.t 45) (.t 46), [], (.new [])⟩,
   ⟨(some 48), none, .mv (.t 2), [], (.new [])⟩,
   ⟨(some 49), none, .call 9 [(.t 44), (.t 47), (.t 48)], [], (.new [])⟩,
   ⟨(some 9), none, .zbox [.d (.v (.string ⟨#[]⟩)), .d (.v (.string ⟨#[]⟩)), .d (.v (.string ⟨#[]⟩)), .d (.v (.int .i64 0)), .d (.v (.int .i64 0)), .d (.v (.int .i64 0)), .d (.v (.int .i64 0)), .d (.v (.bool false)), .d (.v (.int .i64 0)), .d (.v (.slice none 0 0)), .d (.v (.slice none 0 0)), .d (.v (.slice none 0 0)), .d (.v (.slice none 0 0)), .d (.v (.int .i64 0)), .d (.v (.int .i64 0)), .d (.v (.int .i64 0)), .d (.v (.int .i64 0)), .d (.v (.bool false)), .d (.v (.slice none 0 0)), .d (.v (.bool false)), .d (.v (.int .i64 0)), .d (.v (.bool false)), .d (.v (.bool false)), .d (.v (.slice none 0 0))], [], (.new [])⟩,
   ⟨none, none, .store 24 (.t 9) (.t 49), [], (.new [])⟩]))
 (.seq (.sem (.reg [⟨(some 50), none, .load (some 24) (.t 9), [], (.new [])⟩,
   ⟨(some 51), none, .mv (.t 1), [], (.new [])⟩,
   ⟨(some 52), none, .mv (.t 2), [], (.new [])⟩,
   ⟨(some 53), none, .bin .add (.t 51) (.t 52), [], (.new [])⟩,
   ⟨(some 54), none, .bin .add (.t 53) (kI 1), [], (.new [])⟩,
   ⟨(some 55), none, .mv (.t 2), [], (.new [])⟩,
   ⟨(some 56), none, .call 9 [(.t 50), (.t 54), (.t 55)], [], (.new [])⟩,
   ⟨(some 10), none, .zbox [.d (.v (.string ⟨#[]⟩)), .d (.v (.string ⟨#[]⟩)), .d (.v (.string ⟨#[]⟩)), .d (.v (.int .i64 0)), .d (.v (.int .i64 0)), .d (.v (.int .i64 0)), .d (.v (.int .i64 0)), .d (.v (.bool false)), .d (.v (.int .i64 0)), .d (.v (.slice none 0 0)), .d (.v (.slice none 0 0)), .d (.v (.slice none 0 0)), .d (.v (.slice none 0 0)), .d (.v (.int .i64 0)), .d (.v (.int .i64 0)), .d (.v (.int .i64 0)), .d (.v (.int .i64 0)), .d (.v (.bool false)), .d (.v (.slice none 0 0)), .d (.v (.bool false)), .d (.v (.int .i64 0)), .d (.v (.bool false)), .d (.v (.bool false)), .d (.v (.slice none 0 0))], [], (.new [])⟩,
   ⟨none, none, .store 24 (.t 10) (.t 56), [], (.new [])⟩]))
 (.seq (.reg [⟨(some 57), none, .load (some 24) (.t 10), [], (.new [])⟩,
   ⟨(some 58), none, .mv (.t 1), [], (.new [])⟩,
   ⟨(some 59), none, .mv (.t 2), [], (.new [])⟩,
   ⟨(some 60), none, .bin .add (.t 58) (.t 59), [], (.new [])⟩,
   ⟨(some 61), none, .bin .add (.t 60) (kI 1), [], (.new [])⟩,
   ⟨(some 62), none, .mv (.t 3), [], (.new [])⟩,
   ⟨(some 63), none, .bin .add (.t 61) (.t 62), [], (.new [])⟩,
   ⟨(some 64), none, .mv (.t 2), [], (.new [])⟩,
   ⟨(some 65), none, .call 9 [(.t 57), (.t 63), (.t 64)], [], (.new [])⟩,
   ⟨(some 11), none, .zbox [.d (.v (.string ⟨#[]⟩)), .d (.v (.string ⟨#[]⟩)), .d (.v (.string ⟨#[]⟩)), .d (.v (.int .i64 0)), .d (.v (.int .i64 0)), .d (.v (.int .i64 0)), .d (.v (.int .i64 0)), .d (.v (.bool false)), .d (.v (.int .i64 0)), .d (.v (.slice none 0 0)), .d (.v (.slice none 0 0)), .d (.v (.slice none 0 0)), .d (.v (.slice none 0 0)), .d (.v (.int .i64 0)), .d (.v (.int .i64 0)), .d (.v (.int .i64 0)), .d (.v (.int .i64 0)), .d (.v (.bool false)), .d (.v (.slice none 0 0)), .d (.v (.bool false)), .d (.v (.int .i64 0)), .d (.v (.bool false)), .d (.v (.bool false)), .d (.v (.slice none 0 0))], [], (.new [])⟩,
   ⟨none, none, .store 24 (.t 11) (.t 65), [], (.new [])⟩])
 (.seq (.seq (.sem (.reg [⟨(some 66), none, .fieldA 19 (.t 9), [], (.new [])⟩,
   ⟨(some 67), none, .load none (.t 66), [], (.new [])⟩,
   ⟨(some 68), none, .not (.t 67), [], (.new [])⟩,
   ⟨(some 69), none, .mv (.t 68), [], (.new [])⟩,
   ⟨(some 70), (some (69, false)), .fieldA 19 (.t 10), [], (.new [])⟩,
   ⟨(some 71), (some (69, false)), .load none (.t 70), [], (.new [])⟩,
   ⟨(some 72), none, .pick (.t 69) (kB true) (.t 71), [], (.new [])⟩,
   ⟨(some 73), none, .mv (.t 72), [], (.new [])⟩,
   ⟨(some 74), (some (73, false)), .fieldA 19 (.t 11), [], (.new [])⟩,
   ⟨(some 75), (some (73, false)), .load none (.t 74), [], (.new [])⟩,
   ⟨(some 76), none, .pick (.t 73) (kB true) (.t 75), [], (.new [])⟩,
   ⟨(some 77), none, .mv (.t 76), [], (.new [])⟩,
   ⟨(some 78), (some (77, false)), .fieldA 18 (.t 10), [], (.new [])⟩,
   ⟨(some 79), (some (77, false)), .load none (.t 78), [], (.new [])⟩,
   ⟨(some 80), (some (77, false)), .len (.t 79), [], (.new [])⟩,
   ⟨(some 81), (some (77, false)), .fieldA 18 (.t 9), [], (.new [])⟩,
   ⟨(some 82), (some (77, false)), .load none (.t 81), [], (.new [])⟩,
   ⟨(some 83), (some (77, false)), .len (.t 82), [], (.new [])⟩,
   ⟨(some 84), (some (77, false)), .bin .add (.t 83) (kI 2), [], (.new [])⟩,
   ⟨(some 85), (some (77, false)), .bin .neq (.t 80) (.t 84), [], (.new [])⟩,
   ⟨(some 86), none, .pick (.t 77) (kB true) (.t 85), [], (.new [])⟩,
   ⟨(some 87), none, .mv (.t 86), [], (.new [])⟩,
   ⟨(some 88), (some (87, false)), .fieldA 18 (.t 10), [], (.new [])⟩,
   ⟨(some 89), (some (87, false)), .load none (.t 88), [], (.new [])⟩,
   ⟨(some 90), (some (87, false)), .fieldA 18 (.t 11), [], (.new [])⟩,
   ⟨(some 91), (some (87, false)), .load none (.t 90), [], (.new [])⟩,
   ⟨(some 92), (some (87, false)), .call 17 [(.t 89), (.t 91)], [], (.new [])⟩,
   ⟨(some 93), (some (87, false)), .not (.t 92), [], (.new [])⟩,
   ⟨(some 94), none, .pick (.t 87) (kB true) (.t 93), [], (.new [])⟩]))
 (.cond (.t 94)
 (.seq (.reg [⟨(some 8), none, .mv (kB false), [], (.new [])⟩])
 .ret)
 .skip))
 (.seq (.sem (.reg [⟨(some 95), none, .mv (.t 1), [], (.new [])⟩,
   ⟨(some 96), none, .mv (.t 2), [], (.new [])⟩,
   ⟨(some 97), none, .bin .add (.t 95) (.t 96), [], (.new [])⟩,
   ⟨(some 98), none, .bin .add (.t 97) (kI 2), [], (.new [])⟩,
   ⟨(some 99), none, .mv (.t 3), [], (.new [])⟩,
   ⟨(some 100), none, .bin .add (.t 98) (.t 99), [], (.new [])⟩,
   ⟨(some 101), none, .fieldA 20 (.t 11), [], (.new [])⟩,
   ⟨none, none, .store 1 (.t 101) (.t 100), [], (.lone [11])⟩]))
 (.seq (.reg [⟨(some 102), none, .load (some 24) (.t 11), [], (.new [])⟩,
   ⟨(some 103), none, .fieldA 20 (.t 11), [], (.new [])⟩,
   ⟨(some 104), none, .load none (.t 103), [], (.new [])⟩,
   ⟨(some 105), none, .mv (.t 2), [], (.new [])⟩,
   ⟨(some 106), none, .call 9 [(.t 102), (.t 104), (.t 105)], [], (.new [])⟩,
   ⟨(some 12), none, .zbox [.d (.v (.string ⟨#[]⟩)), .d (.v (.string ⟨#[]⟩)), .d (.v (.string ⟨#[]⟩)), .d (.v (.int .i64 0)), .d (.v (.int .i64 0)), .d (.v (.int .i64 0)), .d (.v (.int .i64 0)), .d (.v (.bool false)), .d (.v (.int .i64 0)), .d (.v (.slice none 0 0)), .d (.v (.slice none 0 0)), .d (.v (.slice none 0 0)), .d (.v (.slice none 0 0)), .d (.v (.int .i64 0)), .d (.v (.int .i64 0)), .d (.v (.int .i64 0)), .d (.v (.int .i64 0)), .d (.v (.bool false)), .d (.v (.slice none 0 0)), .d (.v (.bool false)), .d (.v (.int .i64 0)), .d (.v (.bool false)), .d (.v (.bool false)), .d (.v (.slice none 0 0))], [], (.new [])⟩,
   ⟨none, none, .store 24 (.t 12) (.t 106), [], (.new [])⟩])
 (.seq (.reg [⟨(some 107), none, .fieldA 20 (.t 11), [], (.new [])⟩,
   ⟨(some 108), none, .load none (.t 107), [], (.new [])⟩,
   ⟨(some 109), none, .fieldA 20 (.t 9), [], (.new [])⟩,
   ⟨none, none, .store 1 (.t 109) (.t 108), [], (.lone [11, 107, 9])⟩])
 (.seq (.sem (.reg [⟨(some 110), none, .call 7 [], [], (.new [])⟩,
   ⟨(some 111), none, .mv (.t 110), [], (.new [])⟩,
   ⟨(some 112), (some (111, true)), .load (some 24) (.t 9), [], (.new [])⟩,
   ⟨(some 113), (some (111, true)), .load (some 24) (.t 12), [], (.new [])⟩,
   ⟨(some 114), (some (111, true)), .call 8 [(.t 112), (.t 113)], [], (.new [])⟩,
   ⟨(some 115), none, .pick (.t 111) (.t 114) (kB false), [], (.new [])⟩,
   ⟨(some 8), none, .mv (.t 115), [], (.new [])⟩]))
 .ret)))))))))))⟩
theorem a5_ok : afn Try.prog 5 = some a5.er := by kernel_rfl
theorem F5_ok {x0 : Node} {x1 : Int} {x2 : Int} {x3 : Int} {r : Bool} (h : F5 x0 x1 x2 x3 = some r) : CallD Try.prog 5 [.agg [.d (.v (.string x0.Meta.Kind)), .d (.v (.string x0.Meta.Namespace)), .d (.v (.string x0.Meta.Name)), .d (.v (.int .i64 x0.Meta.Uid)), .d (.v (.int .i64 x0.Meta.Version)), .d (.v (.int .i64 x0.Meta.Generation)), .d (.v (.int .i64 x0.Meta.Created)), .d (.v (.bool x0.Meta.Deleting)), .d (.v (.int .i64 x0.Meta.DeleteAt)), .d (.sl (x0.Meta.Labels.map eLabel)), .d (.sl (x0.Meta.Owners.map eOwner)), .d (.sl (x0.Meta.Finalizers.map eS)), .d (.sl (x0.Meta.Managers.map eManager)), .d (.v (.int .i64 x0.Capacity.CPU)), .d (.v (.int .i64 x0.Capacity.Memory)), .d (.v (.int .i64 x0.Capacity.Disk)), .d (.v (.int .i64 x0.MaxPods)), .d (.v (.bool x0.Cordoned)), .d (.sl (x0.Taints.map eTaint)), .d (.v (.bool x0.Ready)), .d (.v (.int .i64 x0.Beat)), .d (.v (.bool x0.LowMem)), .d (.v (.bool x0.LowDisk)), .d (.sl (x0.Images.map eImage))], .c (.d (.v (.int .i64 x1))), .c (.d (.v (.int .i64 x2))), .c (.d (.v (.int .i64 x3)))] [] (tupV [.c (.d (.v (.bool r)))]) [] := by
  refine callS a5_ok (by simp [a5]) ?_
  rw [F5] at h
  simp only [a5, VW.down, Nat.reduceEqDiff, reduceCtorEq, Nat.reduceAdd, Nat.reduceLeDiff, Nat.reduceLT, Nat.reduceBEq, Nat.reduceSub, EE.down]
  obtain ⟨o1, ho, h⟩ := Option.bind_eq_some_iff.1 h
  refine cutS (fun s => s = ⟨[(1, .one (.c (.d (.v (.int .i64 x1))))), (2, .one (.c (.d (.v (.int .i64 x2))))), (3, .one (.c (.d (.v (.int .i64 x3))))), (4, .one (.c (.pt 0 0))), (40, .one (.c (.d (.v (.bool o1)))))], [some (.box [.d (.v (.string x0.Meta.Kind)), .d (.v (.string x0.Meta.Namespace)), .d (.v (.string x0.Meta.Name)), .d (.v (.int .i64 x0.Meta.Uid)), .d (.v (.int .i64 x0.Meta.Version)), .d (.v (.int .i64 x0.Meta.Generation)), .d (.v (.int .i64 x0.Meta.Created)), .d (.v (.bool x0.Meta.Deleting)), .d (.v (.int .i64 x0.Meta.DeleteAt)), .d (.sl (x0.Meta.Labels.map eLabel)), .d (.sl (x0.Meta.Owners.map eOwner)), .d (.sl (x0.Meta.Finalizers.map eS)), .d (.sl (x0.Meta.Managers.map eManager)), .d (.v (.int .i64 x0.Capacity.CPU)), .d (.v (.int .i64 x0.Capacity.Memory)), .d (.v (.int .i64 x0.Capacity.Disk)), .d (.v (.int .i64 x0.MaxPods)), .d (.v (.bool x0.Cordoned)), .d (.sl (x0.Taints.map eTaint)), .d (.v (.bool x0.Ready)), .d (.v (.int .i64 x0.Beat)), .d (.v (.bool x0.LowMem)), .d (.v (.bool x0.LowDisk)), .d (.sl (x0.Images.map eImage))])]⟩) ?_ ?_
  · have h := ho
    clear ho
    simp only [VW.down, Nat.reduceEqDiff, reduceCtorEq, Nat.reduceAdd, Nat.reduceLeDiff, Nat.reduceLT, Nat.reduceBEq, Nat.reduceSub, EE.down]
    refine guardS (fun g2 => ?_) (fun g2 => ?_)
    · have h := (if_pos g2).symm.trans h
      simp only [VW.down, Nat.reduceEqDiff, reduceCtorEq, Nat.reduceAdd, Nat.reduceLeDiff, Nat.reduceLT, Nat.reduceBEq, Nat.reduceSub, EE.down]
      obtain rfl := Option.some.inj h
      exact eM [some 0] rfl
    · have h := (if_neg g2).symm.trans h
      simp only [VW.down, Nat.reduceEqDiff, reduceCtorEq, Nat.reduceAdd, Nat.reduceLeDiff, Nat.reduceLT, Nat.reduceBEq, Nat.reduceSub, EE.down]
      refine guardS (fun g3 => ?_) (fun g3 => ?_)
      · have h := (if_pos g3).symm.trans h
        simp only [VW.down, Nat.reduceEqDiff, reduceCtorEq, Nat.reduceAdd, Nat.reduceLeDiff, Nat.reduceLT, Nat.reduceBEq, Nat.reduceSub, EE.down]
        obtain rfl := Option.some.inj h
        exact eM [some 0] rfl
      · have h := (if_neg g3).symm.trans h
        simp only [VW.down, Nat.reduceEqDiff, reduceCtorEq, Nat.reduceAdd, Nat.reduceLeDiff, Nat.reduceLT, Nat.reduceBEq, Nat.reduceSub, EE.down]
        refine guardS (fun g4 => ?_) (fun g4 => ?_)
        · have h := (if_pos g4).symm.trans h
          simp only [VW.down, Nat.reduceEqDiff, reduceCtorEq, Nat.reduceAdd, Nat.reduceLeDiff, Nat.reduceLT, Nat.reduceBEq, Nat.reduceSub, EE.down]
          obtain rfl := Option.some.inj h
          exact eM [some 0] rfl
        · have h := (if_neg g4).symm.trans h
          simp only [VW.down, Nat.reduceEqDiff, reduceCtorEq, Nat.reduceAdd, Nat.reduceLeDiff, Nat.reduceLT, Nat.reduceBEq, Nat.reduceSub, EE.down]
          refine guardS (fun g5 => ?_) (fun g5 => ?_)
          · have h := (if_pos g5).symm.trans h
            simp only [VW.down, Nat.reduceEqDiff, reduceCtorEq, Nat.reduceAdd, Nat.reduceLeDiff, Nat.reduceLT, Nat.reduceBEq, Nat.reduceSub, EE.down]
            obtain rfl := Option.some.inj h
            exact eM [some 0] rfl
          · have h := (if_neg g5).symm.trans h
            simp only [VW.down, Nat.reduceEqDiff, reduceCtorEq, Nat.reduceAdd, Nat.reduceLeDiff, Nat.reduceLT, Nat.reduceBEq, Nat.reduceSub, EE.down]
            refine guardS (fun g6 => ?_) (fun g6 => ?_)
            · have h := (if_pos g6).symm.trans h
              simp only [VW.down, Nat.reduceEqDiff, reduceCtorEq, Nat.reduceAdd, Nat.reduceLeDiff, Nat.reduceLT, Nat.reduceBEq, Nat.reduceSub, EE.down]
              obtain rfl := Option.some.inj h
              exact eM [some 0] rfl
            · have h := (if_neg g6).symm.trans h
              simp only [VW.down, Nat.reduceEqDiff, reduceCtorEq, Nat.reduceAdd, Nat.reduceLeDiff, Nat.reduceLT, Nat.reduceBEq, Nat.reduceSub, EE.down]
              refine guardS (fun g7 => ?_) (fun g7 => ?_)
              · have h := (if_pos g7).symm.trans h
                simp only [VW.down, Nat.reduceEqDiff, reduceCtorEq, Nat.reduceAdd, Nat.reduceLeDiff, Nat.reduceLT, Nat.reduceBEq, Nat.reduceSub, EE.down]
                obtain rfl := Option.some.inj h
                exact eM [some 0] rfl
              · have h := (if_neg g7).symm.trans h
                simp only [VW.down, Nat.reduceEqDiff, reduceCtorEq, Nat.reduceAdd, Nat.reduceLeDiff, Nat.reduceLT, Nat.reduceBEq, Nat.reduceSub, EE.down]
                obtain rfl := Option.some.inj h
                exact eM [some 0] rfl
  · rintro _ rfl
    clear ho
    simp only [VW.down, Nat.reduceEqDiff, reduceCtorEq, Nat.reduceAdd, Nat.reduceLeDiff, Nat.reduceLT, Nat.reduceBEq, Nat.reduceSub, EE.down]
    refine condB (fun c8 => ?_) (fun c8 => ?_)
    · have h := (if_pos c8).symm.trans h
      simp only [VW.down, Nat.reduceEqDiff, reduceCtorEq, Nat.reduceAdd, Nat.reduceLeDiff, Nat.reduceLT, Nat.reduceBEq, Nat.reduceSub, EE.down]
      obtain ⟨t9, ht9, h⟩ := Option.bind_eq_some_iff.1 h
      refine callX_n [] (F7_ok ht9) ?_ ?_ ?_ ?_ ?_ ?_
      · first | rfl | simp [nrmA, nrmC, nrm, A1.ren, C.ren, rn, List.length_set]
      · simp [liveAll, A1.live, C.live]
      · rfl
      · decide
      · exact trivial
      simp only [VW.down, Nat.reduceEqDiff, reduceCtorEq, Nat.reduceAdd, Nat.reduceLeDiff, Nat.reduceLT, Nat.reduceBEq, Nat.reduceSub, EE.down]
      obtain rfl := Option.some.inj h
      exact eF []
    · have h := (if_neg c8).symm.trans h
      simp only [VW.down, Nat.reduceEqDiff, reduceCtorEq, Nat.reduceAdd, Nat.reduceLeDiff, Nat.reduceLT, Nat.reduceBEq, Nat.reduceSub, EE.down]
      obtain ⟨o10, ho, h⟩ := Option.bind_eq_some_iff.1 h
      refine cutS (fun s => s = ⟨[(1, .one (.c (.d (.v (.int .i64 x1))))), (2, .one (.c (.d (.v (.int .i64 x2))))), (3, .one (.c (.d (.v (.int .i64 x3))))), (9, .one (.c (.pt 0 0)))], [some (.box [.d (.v (.string x0.Meta.Kind)), .d (.v (.string x0.Meta.Namespace)), .d (.v (.string x0.Meta.Name)), .d (.v (.int .i64 x0.Meta.Uid)), .d (.v (.int .i64 x0.Meta.Version)), .d (.v (.int .i64 x0.Meta.Generation)), .d (.v (.int .i64 x0.Meta.Created)), .d (.v (.bool x0.Meta.Deleting)), .d (.v (.int .i64 x0.Meta.DeleteAt)), .d (.sl (o10.1.map eLabel)), .d (.sl (o10.2.1.map eOwner)), .d (.sl (o10.2.2.1.map eS)), .d (.sl (o10.2.2.2.1.map eManager)), .d (.v (.int .i64 x0.Capacity.CPU)), .d (.v (.int .i64 x0.Capacity.Memory)), .d (.v (.int .i64 x0.Capacity.Disk)), .d (.v (.int .i64 x0.MaxPods)), .d (.v (.bool x0.Cordoned)), .d (.sl (o10.2.2.2.2.1.map eTaint)), .d (.v (.bool (decide (¬ ((if 1000000000000 < (if x2 < 0 then 0 else x2) then 1000000000000 else (if x2 < 0 then 0 else x2)) < (IntKind.i64.wrap (((if 1000000000000 < (if ((IntKind.i64.wrap (x1 + x2))) < 0 then 0 else ((IntKind.i64.wrap (x1 + x2)))) then 1000000000000 else (if ((IntKind.i64.wrap (x1 + x2))) < 0 then 0 else ((IntKind.i64.wrap (x1 + x2)))))) - ((if 1000000000000 < (if x1 < 0 then 0 else x1) then 1000000000000 else (if x1 < 0 then 0 else x1)))))))))), .d (.v (.int .i64 x1)), .d (.v (.bool x0.LowMem)), .d (.v (.bool x0.LowDisk)), .d (.sl (o10.2.2.2.2.2.map eImage))])]⟩) ?_ ?_
      · have h := ho
        clear ho
        simp only [VW.down, Nat.reduceEqDiff, reduceCtorEq, Nat.reduceAdd, Nat.reduceLeDiff, Nat.reduceLT, Nat.reduceBEq, Nat.reduceSub, EE.down]
        obtain ⟨t11, ht11, h⟩ := Option.bind_eq_some_iff.1 h
        refine callX_n [] (F9_ok ht11) ?_ ?_ ?_ ?_ ?_ ?_
        · first | rfl | simp [nrmA, nrmC, nrm, A1.ren, C.ren, rn, List.length_set]
        · simp [liveAll, A1.live, C.live]
        · rfl
        · decide
        · exact trivial
        simp only [VW.down, Nat.reduceEqDiff, reduceCtorEq, Nat.reduceAdd, Nat.reduceLeDiff, Nat.reduceLT, Nat.reduceBEq, Nat.reduceSub, EE.down]
        obtain rfl := Option.some.inj h
        exact eM [some 7] rfl
      · rintro _ rfl
        clear ho
        simp only [VW.down, Nat.reduceEqDiff, reduceCtorEq, Nat.reduceAdd, Nat.reduceLeDiff, Nat.reduceLT, Nat.reduceBEq, Nat.reduceSub, EE.down]
        obtain ⟨o12, ho, h⟩ := Option.bind_eq_some_iff.1 h
        refine cutS (fun s => s = ⟨[(1, .one (.c (.d (.v (.int .i64 x1))))), (2, .one (.c (.d (.v (.int .i64 x2))))), (3, .one (.c (.d (.v (.int .i64 x3))))), (9, .one (.c (.pt 0 0))), (10, .one (.c (.pt 1 0)))], [some (.box [.d (.v (.string x0.Meta.Kind)), .d (.v (.string x0.Meta.Namespace)), .d (.v (.string x0.Meta.Name)), .d (.v (.int .i64 x0.Meta.Uid)), .d (.v (.int .i64 x0.Meta.Version)), .d (.v (.int .i64 x0.Meta.Generation)), .d (.v (.int .i64 x0.Meta.Created)), .d (.v (.bool x0.Meta.Deleting)), .d (.v (.int .i64 x0.Meta.DeleteAt)), .d (.sl (o10.1.map eLabel)), .d (.sl (o10.2.1.map eOwner)), .d (.sl (o10.2.2.1.map eS)), .d (.sl (o10.2.2.2.1.map eManager)), .d (.v (.int .i64 x0.Capacity.CPU)), .d (.v (.int .i64 x0.Capacity.Memory)), .d (.v (.int .i64 x0.Capacity.Disk)), .d (.v (.int .i64 x0.MaxPods)), .d (.v (.bool x0.Cordoned)), .d (.sl (o10.2.2.2.2.1.map eTaint)), .d (.v (.bool (decide (¬ ((if 1000000000000 < (if x2 < 0 then 0 else x2) then 1000000000000 else (if x2 < 0 then 0 else x2)) < (IntKind.i64.wrap (((if 1000000000000 < (if ((IntKind.i64.wrap (x1 + x2))) < 0 then 0 else ((IntKind.i64.wrap (x1 + x2)))) then 1000000000000 else (if ((IntKind.i64.wrap (x1 + x2))) < 0 then 0 else ((IntKind.i64.wrap (x1 + x2)))))) - ((if 1000000000000 < (if x1 < 0 then 0 else x1) then 1000000000000 else (if x1 < 0 then 0 else x1)))))))))), .d (.v (.int .i64 x1)), .d (.v (.bool x0.LowMem)), .d (.v (.bool x0.LowDisk)), .d (.sl (o10.2.2.2.2.2.map eImage))]), some (.box [.d (.v (.string x0.Meta.Kind)), .d (.v (.string x0.Meta.Namespace)), .d (.v (.string x0.Meta.Name)), .d (.v (.int .i64 x0.Meta.Uid)), .d (.v (.int .i64 x0.Meta.Version)), .d (.v (.int .i64 x0.Meta.Generation)), .d (.v (.int .i64 x0.Meta.Created)), .d (.v (.bool x0.Meta.Deleting)), .d (.v (.int .i64 x0.Meta.DeleteAt)), .d (.sl (o12.1.map eLabel)), .d (.sl (o12.2.1.map eOwner)), .d (.sl (o12.2.2.1.map eS)), .d (.sl (o12.2.2.2.1.map eManager)), .d (.v (.int .i64 x0.Capacity.CPU)), .d (.v (.int .i64 x0.Capacity.Memory)), .d (.v (.int .i64 x0.Capacity.Disk)), .d (.v (.int .i64 x0.MaxPods)), .d (.v (.bool x0.Cordoned)), .d (.sl (o12.2.2.2.2.1.map eTaint)), .d (.v (.bool (decide (¬ ((if 1000000000000 < (if x2 < 0 then 0 else x2) then 1000000000000 else (if x2 < 0 then 0 else x2)) < (IntKind.i64.wrap (((if 1000000000000 < (if ((IntKind.i64.wrap (((IntKind.i64.wrap (x1 + x2))) + 1))) < 0 then 0 else ((IntKind.i64.wrap (((IntKind.i64.wrap (x1 + x2))) + 1)))) then 1000000000000 else (if ((IntKind.i64.wrap (((IntKind.i64.wrap (x1 + x2))) + 1))) < 0 then 0 else ((IntKind.i64.wrap (((IntKind.i64.wrap (x1 + x2))) + 1)))))) - ((if 1000000000000 < (if x1 < 0 then 0 else x1) then 1000000000000 else (if x1 < 0 then 0 else x1)))))))))), .d (.v (.int .i64 x1)), .d (.v (.bool x0.LowMem)), .d (.v (.bool x0.LowDisk)), .d (.sl (o12.2.2.2.2.2.map eImage))])]⟩) ?_ ?_
        · have h := ho
          clear ho
          simp only [VW.down, Nat.reduceEqDiff, reduceCtorEq, Nat.reduceAdd, Nat.reduceLeDiff, Nat.reduceLT, Nat.reduceBEq, Nat.reduceSub, EE.down]
          obtain ⟨t13, ht13, h⟩ := Option.bind_eq_some_iff.1 h
          refine callX_n [] (F9_ok ht13) ?_ ?_ ?_ ?_ ?_ ?_
          · first | rfl | simp [nrmA, nrmC, nrm, A1.ren, C.ren, rn, List.length_set]
          · simp [liveAll, A1.live, C.live]
          · rfl
          · decide
          · exact trivial
          simp only [VW.down, Nat.reduceEqDiff, reduceCtorEq, Nat.reduceAdd, Nat.reduceLeDiff, Nat.reduceLT, Nat.reduceBEq, Nat.reduceSub, EE.down]
          obtain rfl := Option.some.inj h
          exact eM [some 0, some 7] rfl
        · rintro _ rfl
          clear ho
          simp only [VW.down, Nat.reduceEqDiff, reduceCtorEq, Nat.reduceAdd, Nat.reduceLeDiff, Nat.reduceLT, Nat.reduceBEq, Nat.reduceSub, EE.down]
          obtain ⟨t14, ht14, h⟩ := Option.bind_eq_some_iff.1 h
          refine callX_n [] (F9_ok ht14) ?_ ?_ ?_ ?_ ?_ ?_
          · first | rfl | simp [nrmA, nrmC, nrm, A1.ren, C.ren, rn, List.length_set]
          · simp [liveAll, A1.live, C.live]
          · rfl
          · decide
          · exact trivial
          simp only [VW.down, Nat.reduceEqDiff, reduceCtorEq, Nat.reduceAdd, Nat.reduceLeDiff, Nat.reduceLT, Nat.reduceBEq, Nat.reduceSub, EE.down]
          obtain ⟨o15, ho, h⟩ := Option.bind_eq_some_iff.1 h
          refine cutS (fun s => s = ⟨[(1, .one (.c (.d (.v (.int .i64 x1))))), (2, .one (.c (.d (.v (.int .i64 x2))))), (3, .one (.c (.d (.v (.int .i64 x3))))), (9, .one (.c (.pt 0 0))), (11, .one (.c (.pt 1 0))), (94, .one (.c (.d (.v (.bool o15)))))], [some (.box [.d (.v (.string x0.Meta.Kind)), .d (.v (.string x0.Meta.Namespace)), .d (.v (.string x0.Meta.Name)), .d (.v (.int .i64 x0.Meta.Uid)), .d (.v (.int .i64 x0.Meta.Version)), .d (.v (.int .i64 x0.Meta.Generation)), .d (.v (.int .i64 x0.Meta.Created)), .d (.v (.bool x0.Meta.Deleting)), .d (.v (.int .i64 x0.Meta.DeleteAt)), .d (.sl (o10.1.map eLabel)), .d (.sl (o10.2.1.map eOwner)), .d (.sl (o10.2.2.1.map eS)), .d (.sl (o10.2.2.2.1.map eManager)), .d (.v (.int .i64 x0.Capacity.CPU)), .d (.v (.int .i64 x0.Capacity.Memory)), .d (.v (.int .i64 x0.Capacity.Disk)), .d (.v (.int .i64 x0.MaxPods)), .d (.v (.bool x0.Cordoned)), .d (.sl (o10.2.2.2.2.1.map eTaint)), .d (.v (.bool (decide (¬ ((if 1000000000000 < (if x2 < 0 then 0 else x2) then 1000000000000 else (if x2 < 0 then 0 else x2)) < (IntKind.i64.wrap (((if 1000000000000 < (if ((IntKind.i64.wrap (x1 + x2))) < 0 then 0 else ((IntKind.i64.wrap (x1 + x2)))) then 1000000000000 else (if ((IntKind.i64.wrap (x1 + x2))) < 0 then 0 else ((IntKind.i64.wrap (x1 + x2)))))) - ((if 1000000000000 < (if x1 < 0 then 0 else x1) then 1000000000000 else (if x1 < 0 then 0 else x1)))))))))), .d (.v (.int .i64 x1)), .d (.v (.bool x0.LowMem)), .d (.v (.bool x0.LowDisk)), .d (.sl (o10.2.2.2.2.2.map eImage))]), some (.box [.d (.v (.string x0.Meta.Kind)), .d (.v (.string x0.Meta.Namespace)), .d (.v (.string x0.Meta.Name)), .d (.v (.int .i64 x0.Meta.Uid)), .d (.v (.int .i64 x0.Meta.Version)), .d (.v (.int .i64 x0.Meta.Generation)), .d (.v (.int .i64 x0.Meta.Created)), .d (.v (.bool x0.Meta.Deleting)), .d (.v (.int .i64 x0.Meta.DeleteAt)), .own 2 0 0 (t14.1.length) none, .own 3 0 0 (t14.2.1.length) none, .own 4 0 0 (t14.2.2.1.length) none, .own 5 0 0 (t14.2.2.2.1.length) none, .d (.v (.int .i64 x0.Capacity.CPU)), .d (.v (.int .i64 x0.Capacity.Memory)), .d (.v (.int .i64 x0.Capacity.Disk)), .d (.v (.int .i64 x0.MaxPods)), .d (.v (.bool x0.Cordoned)), .own 6 0 0 (t14.2.2.2.2.1.length) none, .d (.v (.bool (decide (¬ ((if 1000000000000 < (if x2 < 0 then 0 else x2) then 1000000000000 else (if x2 < 0 then 0 else x2)) < (IntKind.i64.wrap (((if 1000000000000 < (if ((IntKind.i64.wrap (((IntKind.i64.wrap (((IntKind.i64.wrap (x1 + x2))) + 1))) + x3))) < 0 then 0 else ((IntKind.i64.wrap (((IntKind.i64.wrap (((IntKind.i64.wrap (x1 + x2))) + 1))) + x3)))) then 1000000000000 else (if ((IntKind.i64.wrap (((IntKind.i64.wrap (((IntKind.i64.wrap (x1 + x2))) + 1))) + x3))) < 0 then 0 else ((IntKind.i64.wrap (((IntKind.i64.wrap (((IntKind.i64.wrap (x1 + x2))) + 1))) + x3)))))) - ((if 1000000000000 < (if x1 < 0 then 0 else x1) then 1000000000000 else (if x1 < 0 then 0 else x1)))))))))), .d (.v (.int .i64 x1)), .d (.v (.bool x0.LowMem)), .d (.v (.bool x0.LowDisk)), .own 7 0 0 (t14.2.2.2.2.2.length) none]), some (.arr 0 2 (t14.1.map eLabel)), some (.arr 0 5 (t14.2.1.map eOwner)), some (.arr 0 1 (t14.2.2.1.map eS)), some (.arr 0 2 (t14.2.2.2.1.map eManager)), some (.arr 0 4 (t14.2.2.2.2.1.map eTaint)), some (.arr 0 3 (t14.2.2.2.2.2.map eImage))]⟩) ?_ ?_
          · have h := ho
            clear ho
            simp only [VW.down, Nat.reduceEqDiff, reduceCtorEq, Nat.reduceAdd, Nat.reduceLeDiff, Nat.reduceLT, Nat.reduceBEq, Nat.reduceSub, EE.down]
            refine guardS (fun g16 => ?_) (fun g16 => ?_)
            · have h := (if_pos g16).symm.trans h
              simp only [VW.down, Nat.reduceEqDiff, reduceCtorEq, Nat.reduceAdd, Nat.reduceLeDiff, Nat.reduceLT, Nat.reduceBEq, Nat.reduceSub, EE.down]
              obtain rfl := Option.some.inj h
              exact eM [some 0, some 8, some 2, some 3, some 4, some 5, some 6, some 7] rfl
            · have h := (if_neg g16).symm.trans h
              simp only [VW.down, Nat.reduceEqDiff, reduceCtorEq, Nat.reduceAdd, Nat.reduceLeDiff, Nat.reduceLT, Nat.reduceBEq, Nat.reduceSub, EE.down]
              refine guardS (fun g17 => ?_) (fun g17 => ?_)
              · have h := (if_pos g17).symm.trans h
                simp only [VW.down, Nat.reduceEqDiff, reduceCtorEq, Nat.reduceAdd, Nat.reduceLeDiff, Nat.reduceLT, Nat.reduceBEq, Nat.reduceSub, EE.down]
                obtain rfl := Option.some.inj h
                exact eM [some 0, some 8, some 2, some 3, some 4, some 5, some 6, some 7] rfl
              · have h := (if_neg g17).symm.trans h
                simp only [VW.down, Nat.reduceEqDiff, reduceCtorEq, Nat.reduceAdd, Nat.reduceLeDiff, Nat.reduceLT, Nat.reduceBEq, Nat.reduceSub, EE.down]
                refine guardS (fun g18 => ?_) (fun g18 => ?_)
                · have h := (if_pos g18).symm.trans h
                  simp only [VW.down, Nat.reduceEqDiff, reduceCtorEq, Nat.reduceAdd, Nat.reduceLeDiff, Nat.reduceLT, Nat.reduceBEq, Nat.reduceSub, EE.down]
                  obtain rfl := Option.some.inj h
                  exact eM [some 0, some 8, some 2, some 3, some 4, some 5, some 6, some 7] rfl
                · have h := (if_neg g18).symm.trans h
                  simp only [VW.down, Nat.reduceEqDiff, reduceCtorEq, Nat.reduceAdd, Nat.reduceLeDiff, Nat.reduceLT, Nat.reduceBEq, Nat.reduceSub, EE.down]
                  refine guardS (fun g19 => ?_) (fun g19 => ?_)
                  · have h := (if_pos g19).symm.trans h
                    simp only [VW.down, Nat.reduceEqDiff, reduceCtorEq, Nat.reduceAdd, Nat.reduceLeDiff, Nat.reduceLT, Nat.reduceBEq, Nat.reduceSub, EE.down]
                    obtain rfl := Option.some.inj h
                    exact eM [some 0, some 8, some 2, some 3, some 4, some 5, some 6, some 7] rfl
                  · have h := (if_neg g19).symm.trans h
                    simp only [VW.down, Nat.reduceEqDiff, reduceCtorEq, Nat.reduceAdd, Nat.reduceLeDiff, Nat.reduceLT, Nat.reduceBEq, Nat.reduceSub, EE.down]
                    obtain ⟨t20, ht20, h⟩ := Option.bind_eq_some_iff.1 h
                    refine callX_bor (F17_ok ht20) (by simp only [borAs, bors, hp, List.getElem?_cons_zero, List.getElem?_cons_succ, Option.join_some, List.drop_zero, bor_full', true_and, Nat.zero_add, List.length_map, Nat.le_refl, nrm, List.length_cons, List.length_nil, Nat.reduceAdd, Nat.reduceLeDiff, List.take_succ_cons, List.take_zero, List.take_nil, List.map_cons, List.map_nil, List.length_set, EE.down]) rfl ?_
                    simp only [VW.down, Nat.reduceEqDiff, reduceCtorEq, Nat.reduceAdd, Nat.reduceLeDiff, Nat.reduceLT, Nat.reduceBEq, Nat.reduceSub, EE.down]
                    obtain rfl := Option.some.inj h
                    exact eM [some 0, some 8, some 2, some 3, some 4, some 5, some 6, some 7] rfl
          · rintro _ rfl
            clear ho
            simp only [VW.down, Nat.reduceEqDiff, reduceCtorEq, Nat.reduceAdd, Nat.reduceLeDiff, Nat.reduceLT, Nat.reduceBEq, Nat.reduceSub, EE.down]
            refine condB (fun c21 => ?_) (fun c21 => ?_)
            · have h := (if_pos c21).symm.trans h
              simp only [VW.down, Nat.reduceEqDiff, reduceCtorEq, Nat.reduceAdd, Nat.reduceLeDiff, Nat.reduceLT, Nat.reduceBEq, Nat.reduceSub, EE.down]
              obtain rfl := Option.some.inj h
              exact eF []
            · have h := (if_neg c21).symm.trans h
              simp only [VW.down, Nat.reduceEqDiff, reduceCtorEq, Nat.reduceAdd, Nat.reduceLeDiff, Nat.reduceLT, Nat.reduceBEq, Nat.reduceSub, EE.down]
              obtain ⟨o22, ho, h⟩ := Option.bind_eq_some_iff.1 h
              refine cutS (fun s => s = ⟨[(2, .one (.c (.d (.v (.int .i64 x2))))), (9, .one (.c (.pt 0 0))), (11, .one (.c (.pt 1 0)))], [some (.box [.d (.v (.string x0.Meta.Kind)), .d (.v (.string x0.Meta.Namespace)), .d (.v (.string x0.Meta.Name)), .d (.v (.int .i64 x0.Meta.Uid)), .d (.v (.int .i64 x0.Meta.Version)), .d (.v (.int .i64 x0.Meta.Generation)), .d (.v (.int .i64 x0.Meta.Created)), .d (.v (.bool x0.Meta.Deleting)), .d (.v (.int .i64 x0.Meta.DeleteAt)), .d (.sl (o10.1.map eLabel)), .d (.sl (o10.2.1.map eOwner)), .d (.sl (o10.2.2.1.map eS)), .d (.sl (o10.2.2.2.1.map eManager)), .d (.v (.int .i64 x0.Capacity.CPU)), .d (.v (.int .i64 x0.Capacity.Memory)), .d (.v (.int .i64 x0.Capacity.Disk)), .d (.v (.int .i64 x0.MaxPods)), .d (.v (.bool x0.Cordoned)), .d (.sl (o10.2.2.2.2.1.map eTaint)), .d (.v (.bool (decide (¬ ((if 1000000000000 < (if x2 < 0 then 0 else x2) then 1000000000000 else (if x2 < 0 then 0 else x2)) < (IntKind.i64.wrap (((if 1000000000000 < (if ((IntKind.i64.wrap (x1 + x2))) < 0 then 0 else ((IntKind.i64.wrap (x1 + x2)))) then 1000000000000 else (if ((IntKind.i64.wrap (x1 + x2))) < 0 then 0 else ((IntKind.i64.wrap (x1 + x2)))))) - ((if 1000000000000 < (if x1 < 0 then 0 else x1) then 1000000000000 else (if x1 < 0 then 0 else x1)))))))))), .d (.v (.int .i64 x1)), .d (.v (.bool x0.LowMem)), .d (.v (.bool x0.LowDisk)), .d (.sl (o10.2.2.2.2.2.map eImage))]), some (.box [.d (.v (.string x0.Meta.Kind)), .d (.v (.string x0.Meta.Namespace)), .d (.v (.string x0.Meta.Name)), .d (.v (.int .i64 x0.Meta.Uid)), .d (.v (.int .i64 x0.Meta.Version)), .d (.v (.int .i64 x0.Meta.Generation)), .d (.v (.int .i64 x0.Meta.Created)), .d (.v (.bool x0.Meta.Deleting)), .d (.v (.int .i64 x0.Meta.DeleteAt)), .d (.sl (t14.1.map eLabel)), .d (.sl (t14.2.1.map eOwner)), .d (.sl (t14.2.2.1.map eS)), .d (.sl (t14.2.2.2.1.map eManager)), .d (.v (.int .i64 x0.Capacity.CPU)), .d (.v (.int .i64 x0.Capacity.Memory)), .d (.v (.int .i64 x0.Capacity.Disk)), .d (.v (.int .i64 x0.MaxPods)), .d (.v (.bool x0.Cordoned)), .d (.sl (t14.2.2.2.2.1.map eTaint)), .d (.v (.bool (decide (¬ ((if 1000000000000 < (if x2 < 0 then 0 else x2) then 1000000000000 else (if x2 < 0 then 0 else x2)) < (IntKind.i64.wrap (((if 1000000000000 < (if ((IntKind.i64.wrap (((IntKind.i64.wrap (((IntKind.i64.wrap (x1 + x2))) + 1))) + x3))) < 0 then 0 else ((IntKind.i64.wrap (((IntKind.i64.wrap (((IntKind.i64.wrap (x1 + x2))) + 1))) + x3)))) then 1000000000000 else (if ((IntKind.i64.wrap (((IntKind.i64.wrap (((IntKind.i64.wrap (x1 + x2))) + 1))) + x3))) < 0 then 0 else ((IntKind.i64.wrap (((IntKind.i64.wrap (((IntKind.i64.wrap (x1 + x2))) + 1))) + x3)))))) - ((if 1000000000000 < (if x1 < 0 then 0 else x1) then 1000000000000 else (if x1 < 0 then 0 else x1)))))))))), .d (.v (.int .i64 ((IntKind.i64.wrap (((IntKind.i64.wrap (((IntKind.i64.wrap (x1 + x2))) + 2))) + x3))))), .d (.v (.bool x0.LowMem)), .d (.v (.bool x0.LowDisk)), .d (.sl (t14.2.2.2.2.2.map eImage))])]⟩) ?_ ?_
              · have h := ho
                clear ho
                simp only [VW.down, Nat.reduceEqDiff, reduceCtorEq, Nat.reduceAdd, Nat.reduceLeDiff, Nat.reduceLT, Nat.reduceBEq, Nat.reduceSub, EE.down]
                obtain rfl := Option.some.inj h
                exact eM [some 0, some 1] rfl
              · rintro _ rfl
                clear ho
                simp only [VW.down, Nat.reduceEqDiff, reduceCtorEq, Nat.reduceAdd, Nat.reduceLeDiff, Nat.reduceLT, Nat.reduceBEq, Nat.reduceSub, EE.down]
                obtain ⟨t23, ht23, h⟩ := Option.bind_eq_some_iff.1 h
                refine callX_n [] (F9_ok ht23) ?_ ?_ ?_ ?_ ?_ ?_
                · first | rfl | simp [nrmA, nrmC, nrm, A1.ren, C.ren, rn, List.length_set]
                · simp [liveAll, A1.live, C.live]
                · rfl
                · decide
                · exact trivial
                simp only [VW.down, Nat.reduceEqDiff, reduceCtorEq, Nat.reduceAdd, Nat.reduceLeDiff, Nat.reduceLT, Nat.reduceBEq, Nat.reduceSub, EE.down]
                obtain ⟨o24, ho, h⟩ := Option.bind_eq_some_iff.1 h
                refine cutS (fun s => s = ⟨[(8, .one (.c (.d (.v (.bool o24)))))], []⟩) ?_ ?_
                · have h := ho
                  clear ho
                  simp only [VW.down, Nat.reduceEqDiff, reduceCtorEq, Nat.reduceAdd, Nat.reduceLeDiff, Nat.reduceLT, Nat.reduceBEq, Nat.reduceSub, EE.down]
                  obtain ⟨t25, ht25, h⟩ := Option.bind_eq_some_iff.1 h
                  refine callX_n [] (F7_ok ht25) ?_ ?_ ?_ ?_ ?_ ?_
                  · first | rfl | simp [nrmA, nrmC, nrm, A1.ren, C.ren, rn, List.length_set]
                  · simp [liveAll, A1.live, C.live]
                  · rfl
                  · decide
                  · exact trivial
                  simp only [VW.down, Nat.reduceEqDiff, reduceCtorEq, Nat.reduceAdd, Nat.reduceLeDiff, Nat.reduceLT, Nat.reduceBEq, Nat.reduceSub, EE.down]
                  refine guardSB (fun g26 => ?_) (fun g26 => ?_)
                  · have h := (if_pos g26).symm.trans h
                    simp only [VW.down, Nat.reduceEqDiff, reduceCtorEq, Nat.reduceAdd, Nat.reduceLeDiff, Nat.reduceLT, Nat.reduceBEq, Nat.reduceSub, EE.down]
                    obtain ⟨t27, ht27, h⟩ := Option.bind_eq_some_iff.1 h
                    refine callX_bor (F8_ok ht27) (by simp only [borAs, bors, hp, List.getElem?_cons_zero, List.getElem?_cons_succ, Option.join_some, List.drop_zero, bor_full', true_and, Nat.zero_add, List.length_map, Nat.le_refl, nrm, List.length_cons, List.length_nil, Nat.reduceAdd, Nat.reduceLeDiff, List.take_succ_cons, List.take_zero, List.take_nil, List.map_cons, List.map_nil, List.length_set, EE.down]) rfl ?_
                    simp only [VW.down, Nat.reduceEqDiff, reduceCtorEq, Nat.reduceAdd, Nat.reduceLeDiff, Nat.reduceLT, Nat.reduceBEq, Nat.reduceSub, EE.down]
                    obtain rfl := Option.some.inj h
                    exact eM [] rfl
                  · have h := (if_neg g26).symm.trans h
                    simp only [VW.down, Nat.reduceEqDiff, reduceCtorEq, Nat.reduceAdd, Nat.reduceLeDiff, Nat.reduceLT, Nat.reduceBEq, Nat.reduceSub, EE.down]
                    obtain rfl := Option.some.inj h
                    exact eM [] rfl
                · rintro _ rfl
                  clear ho
                  simp only [VW.down, Nat.reduceEqDiff, reduceCtorEq, Nat.reduceAdd, Nat.reduceLeDiff, Nat.reduceLT, Nat.reduceBEq, Nat.reduceSub, EE.down]
                  obtain rfl := Option.some.inj h
                  exact eF []

end Go.Proofs.Ytihhlgbcbmoblaa
