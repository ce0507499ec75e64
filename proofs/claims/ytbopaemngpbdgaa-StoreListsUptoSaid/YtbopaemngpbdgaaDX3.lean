/- Each Go function as a function over typed data, and its walk. -/
import Derived.Test.YtbopaemngpbdgaaDX2
namespace Go.Proofs.Ytbopaemngpbdgaa
open Go Go.Fw Go.Shelf
set_option maxRecDepth 100000
set_option maxHeartbeats 4000000
set_option linter.unusedSimpArgs false
set_option linter.unusedVariables false
/- orchestrator/store.Create -/
def F25 (x0 : TStore) (x1 : Object) (x2 : Int) : Option (Int × Int × Int × (List Object) × (List Object) × (List Change) × Object × Int) := (F33 x1.Meta).bind fun t1 => (F51 x0.Objects t1).bind fun t2 => (((F31 x1).bind fun t4 => (if (nb t4) = true then some true else (if x2 < 0 then some true else some (decide (1000000000000 < x2))))).bind fun o3 => (if o3 = true then (F32 x0).bind fun t8 => some ((x0.Rev, x0.Floor, x0.NextUid, t8.1, t8.2.1, t8.2.2, (⟨(⟨(⟨#[]⟩ : ByteArray), (⟨#[]⟩ : ByteArray), (⟨#[]⟩ : ByteArray), 0, 0, 0, 0, false, 0, [], [], [], []⟩ : Meta), (⟨0, 0, (⟨#[]⟩ : ByteArray), [], []⟩ : TValue), (⟨0, 0, (⟨#[]⟩ : ByteArray), [], []⟩ : TValue)⟩ : Object), 1)) else (if t2.2 = true then (F32 x0).bind fun t10 => some ((x0.Rev, x0.Floor, x0.NextUid, t10.1, t10.2.1, t10.2.2, (⟨(⟨(⟨#[]⟩ : ByteArray), (⟨#[]⟩ : ByteArray), (⟨#[]⟩ : ByteArray), 0, 0, 0, 0, false, 0, [], [], [], []⟩ : Meta), (⟨0, 0, (⟨#[]⟩ : ByteArray), [], []⟩ : TValue), (⟨0, 0, (⟨#[]⟩ : ByteArray), [], []⟩ : TValue)⟩ : Object), 8)) else (((if 500 ≤ (x0.Objects.length : Int) then some true else (if 1000000000000000 ≤ x0.Rev then some true else some (decide (1000000000000000 ≤ x0.NextUid))))).bind fun o11 => (if o11 = true then (F32 x0).bind fun t15 => some ((x0.Rev, x0.Floor, x0.NextUid, t15.1, t15.2.1, t15.2.2, (⟨(⟨(⟨#[]⟩ : ByteArray), (⟨#[]⟩ : ByteArray), (⟨#[]⟩ : ByteArray), 0, 0, 0, 0, false, 0, [], [], [], []⟩ : Meta), (⟨0, 0, (⟨#[]⟩ : ByteArray), [], []⟩ : TValue), (⟨0, 0, (⟨#[]⟩ : ByteArray), [], []⟩ : TValue)⟩ : Object), 15)) else (F34 x1).bind fun t16 => ((some (())).bind fun o17 => (F36 x0 1 ((⟨(⟨x1.Meta.Kind, x1.Meta.Namespace, x1.Meta.Name, x0.NextUid, (IntKind.i64.wrap (x0.Rev + 1)), 1, x2, false, 0, t16.1, t16.2.1, t16.2.2.1, t16.2.2.2.1⟩ : Meta), (⟨t16.2.2.2.2.1, t16.2.2.2.2.2.1, t16.2.2.2.2.2.2.1, t16.2.2.2.2.2.2.2.1, t16.2.2.2.2.2.2.2.2.1⟩ : TValue), (⟨t16.2.2.2.2.2.2.2.2.2.1, t16.2.2.2.2.2.2.2.2.2.2.1, t16.2.2.2.2.2.2.2.2.2.2.2.1, t16.2.2.2.2.2.2.2.2.2.2.2.2.1, t16.2.2.2.2.2.2.2.2.2.2.2.2.2⟩ : TValue)⟩ : Object))).bind fun t18 => some ((t18.1, t18.2.1, (IntKind.i64.wrap (x0.NextUid + 1)), t18.2.2.1, t18.2.2.2.1, t18.2.2.2.2, (⟨(⟨x1.Meta.Kind, x1.Meta.Namespace, x1.Meta.Name, x0.NextUid, (IntKind.i64.wrap (x0.Rev + 1)), 1, x2, false, 0, t16.1, t16.2.1, t16.2.2.1, t16.2.2.2.1⟩ : Meta), (⟨t16.2.2.2.2.1, t16.2.2.2.2.2.1, t16.2.2.2.2.2.2.1, t16.2.2.2.2.2.2.2.1, t16.2.2.2.2.2.2.2.2.1⟩ : TValue), (⟨t16.2.2.2.2.2.2.2.2.2.1, t16.2.2.2.2.2.2.2.2.2.2.1, t16.2.2.2.2.2.2.2.2.2.2.2.1, t16.2.2.2.2.2.2.2.2.2.2.2.2.1, t16.2.2.2.2.2.2.2.2.2.2.2.2.2⟩ : TValue)⟩ : Object), 0))))))))
def a25 : AFn := ⟨97, [(.cell 6 (some 6)), (.cell 7 (some 23)), (.tmp 8)],
 (.seq (.reg [sq 3 (.box (.t 0)),
sq 4 (.box (.t 1)),
sq 6 (.zbox [.d (.v (.int .i64 0)), .d (.v (.int .i64 0)), .d (.v (.int .i64 0)), .d (.v (.slice none 0 0)), .d (.v (.slice none 0 0)), .d (.v (.slice none 0 0))]),
sq 7 (.zbox [.d (.v (.string ⟨#[]⟩)), .d (.v (.string ⟨#[]⟩)), .d (.v (.string ⟨#[]⟩)), .d (.v (.int .i64 0)), .d (.v (.int .i64 0)), .d (.v (.int .i64 0)), .d (.v (.int .i64 0)), .d (.v (.bool false)), .d (.v (.int .i64 0)), .d (.v (.slice none 0 0)), .d (.v (.slice none 0 0)), .d (.v (.slice none 0 0)), .d (.v (.slice none 0 0)), .d (.v (.int .i64 0)), .d (.v (.int .i64 0)), .d (.v (.string ⟨#[]⟩)), .d (.v (.slice none 0 0)), .d (.v (.slice none 0 0)), .d (.v (.int .i64 0)), .d (.v (.int .i64 0)), .d (.v (.string ⟨#[]⟩)), .d (.v (.slice none 0 0)), .d (.v (.slice none 0 0))]),
sq 8 (.mv (kI 0))])
 (.seq (.regd [sq 15 (.fieldA 4 (.t 3)),
sd 16 (.load none (.t 15)) [0],
sq 17 (.fieldA 0 (.t 4)),
sd 18 (.load (some 13) (.t 17)) [2],
⟨(some 19), none, .call 33 [(.t 18)], [2, 3], (.lone [3, 15])⟩,
⟨(some 20), none, .call 51 [(.t 16), (.t 19)], [0, 1, 2, 3, 4], (.lone [])⟩,
sd 14 (.mv (.t 20)) [0, 1, 2, 3, 4, 5],
sd 21 (.ext (.t 14) 0) [0, 1, 2, 3, 4, 5, 6],
sd 22 (.ext (.t 14) 1) [0, 1, 2, 3, 4, 5, 6],
sd 9 (.mv (.t 21)) [0, 1, 2, 3, 4, 5, 6, 7],
sd 10 (.mv (.t 22)) [0, 1, 2, 3, 4, 5, 6, 7, 8, 9]])
 (.seq (.block 0 (.seq (.sem (.reg [sq 24 (.load (some 23) (.t 4)),
sq 25 (.call 31 [(.t 24)]),
sq 26 (.not (.t 25)),
sq 27 (.mv (.t 26)),
⟨(some 28), (some (27, false)), .mv (.t 2), [], (.new [])⟩,
⟨(some 29), (some (27, false)), .bin .lss (.t 28) (kI 0), [], (.new [])⟩,
sq 30 (.pick (.t 27) (kB true) (.t 29)),
sq 31 (.mv (.t 30)),
⟨(some 32), (some (31, false)), .mv (.t 2), [], (.new [])⟩,
⟨(some 33), (some (31, false)), .bin .gtr (.t 32) (kI 1000000000000), [], (.new [])⟩,
sq 34 (.pick (.t 31) (kB true) (.t 33)),
sq 23 (.mv (.t 34))]))
 (.cond (.t 23)
 (.seq (.reg [sq 35 (.load (some 6) (.t 3)),
sq 36 (.call 32 [(.t 35)]),
sq 37 (.build [.d (.v (.string ⟨#[]⟩)), .d (.v (.string ⟨#[]⟩)), .d (.v (.string ⟨#[]⟩)), .d (.v (.int .i64 0)), .d (.v (.int .i64 0)), .d (.v (.int .i64 0)), .d (.v (.int .i64 0)), .d (.v (.bool false)), .d (.v (.int .i64 0)), .d (.v (.slice none 0 0)), .d (.v (.slice none 0 0)), .d (.v (.slice none 0 0)), .d (.v (.slice none 0 0)), .d (.v (.int .i64 0)), .d (.v (.int .i64 0)), .d (.v (.string ⟨#[]⟩)), .d (.v (.slice none 0 0)), .d (.v (.slice none 0 0)), .d (.v (.int .i64 0)), .d (.v (.int .i64 0)), .d (.v (.string ⟨#[]⟩)), .d (.v (.slice none 0 0)), .d (.v (.slice none 0 0))] []),
su (.store 6 (.t 6) (.t 36)),
su (.store 23 (.t 7) (.t 37)),
sq 8 (.mv (kI 1))])
 .ret)
 (.seq (.reg [sq 39 (.mv (.t 10)),
sq 38 (.mv (.t 39))])
 (.cond (.t 38)
 (.seq (.reg [sq 40 (.load (some 6) (.t 3)),
sq 41 (.call 32 [(.t 40)]),
sq 42 (.build [.d (.v (.string ⟨#[]⟩)), .d (.v (.string ⟨#[]⟩)), .d (.v (.string ⟨#[]⟩)), .d (.v (.int .i64 0)), .d (.v (.int .i64 0)), .d (.v (.int .i64 0)), .d (.v (.int .i64 0)), .d (.v (.bool false)), .d (.v (.int .i64 0)), .d (.v (.slice none 0 0)), .d (.v (.slice none 0 0)), .d (.v (.slice none 0 0)), .d (.v (.slice none 0 0)), .d (.v (.int .i64 0)), .d (.v (.int .i64 0)), .d (.v (.string ⟨#[]⟩)), .d (.v (.slice none 0 0)), .d (.v (.slice none 0 0)), .d (.v (.int .i64 0)), .d (.v (.int .i64 0)), .d (.v (.string ⟨#[]⟩)), .d (.v (.slice none 0 0)), .d (.v (.slice none 0 0))] []),
su (.store 6 (.t 6) (.t 41)),
su (.store 23 (.t 7) (.t 42)),
sq 8 (.mv (kI 8))])
 .ret)
 (.seq (.sem (.reg [sq 44 (.fieldA 4 (.t 3)),
sq 45 (.load none (.t 44)),
sq 46 (.len (.t 45)),
sq 47 (.bin .geq (.t 46) (kI 500)),
sq 48 (.mv (.t 47)),
⟨(some 49), (some (48, false)), .fieldA 0 (.t 3), [], (.new [])⟩,
⟨(some 50), (some (48, false)), .load none (.t 49), [], (.new [])⟩,
⟨(some 51), (some (48, false)), .bin .geq (.t 50) (kI 1000000000000000), [], (.new [])⟩,
sq 52 (.pick (.t 48) (kB true) (.t 51)),
sq 53 (.mv (.t 52)),
⟨(some 54), (some (53, false)), .fieldA 2 (.t 3), [], (.new [])⟩,
⟨(some 55), (some (53, false)), .load none (.t 54), [], (.new [])⟩,
⟨(some 56), (some (53, false)), .bin .geq (.t 55) (kI 1000000000000000), [], (.new [])⟩,
sq 57 (.pick (.t 53) (kB true) (.t 56)),
sq 43 (.mv (.t 57))]))
 (.cond (.t 43)
 (.seq (.reg [sq 58 (.load (some 6) (.t 3)),
sq 59 (.call 32 [(.t 58)]),
sq 60 (.build [.d (.v (.string ⟨#[]⟩)), .d (.v (.string ⟨#[]⟩)), .d (.v (.string ⟨#[]⟩)), .d (.v (.int .i64 0)), .d (.v (.int .i64 0)), .d (.v (.int .i64 0)), .d (.v (.int .i64 0)), .d (.v (.bool false)), .d (.v (.int .i64 0)), .d (.v (.slice none 0 0)), .d (.v (.slice none 0 0)), .d (.v (.slice none 0 0)), .d (.v (.slice none 0 0)), .d (.v (.int .i64 0)), .d (.v (.int .i64 0)), .d (.v (.string ⟨#[]⟩)), .d (.v (.slice none 0 0)), .d (.v (.slice none 0 0)), .d (.v (.int .i64 0)), .d (.v (.int .i64 0)), .d (.v (.string ⟨#[]⟩)), .d (.v (.slice none 0 0)), .d (.v (.slice none 0 0))] []),
su (.store 6 (.t 6) (.t 59)),
su (.store 23 (.t 7) (.t 60)),
sq 8 (.mv (kI 15))])
 .ret)
 .skip)))))))
 (.seq (.reg [sq 61 (.load (some 23) (.t 4)),
sq 62 (.call 34 [(.t 61)]),
sq 11 (.zbox [.d (.v (.string ⟨#[]⟩)), .d (.v (.string ⟨#[]⟩)), .d (.v (.string ⟨#[]⟩)), .d (.v (.int .i64 0)), .d (.v (.int .i64 0)), .d (.v (.int .i64 0)), .d (.v (.int .i64 0)), .d (.v (.bool false)), .d (.v (.int .i64 0)), .d (.v (.slice none 0 0)), .d (.v (.slice none 0 0)), .d (.v (.slice none 0 0)), .d (.v (.slice none 0 0)), .d (.v (.int .i64 0)), .d (.v (.int .i64 0)), .d (.v (.string ⟨#[]⟩)), .d (.v (.slice none 0 0)), .d (.v (.slice none 0 0)), .d (.v (.int .i64 0)), .d (.v (.int .i64 0)), .d (.v (.string ⟨#[]⟩)), .d (.v (.slice none 0 0)), .d (.v (.slice none 0 0))]),
su (.store 23 (.t 11) (.t 62))])
 (.seq (.reg [sq 63 (.fieldA 0 (.t 11)),
sq 12 (.mv (.t 63))])
 (.seq (.sem (.regd [sq 64 (.mv (.t 12)),
sq 65 (.mv (.t 12)),
sq 66 (.mv (.t 12)),
sq 67 (.mv (.t 12)),
sq 68 (.mv (.t 12)),
sq 69 (.mv (.t 12)),
sq 70 (.fieldA 2 (.t 3)),
sd 71 (.load none (.t 70)) [6],
sq 72 (.fieldA 0 (.t 3)),
sd 73 (.load none (.t 72)) [8],
sd 74 (.bin .add (.t 73) (kI 1)) [8, 9],
sq 75 (.mv (.t 2)),
sd 76 (.fieldA 0 (.t 64)) [0, 6, 7],
sd 77 (.fieldA 3 (.t 76)) [0, 6, 7, 12],
⟨none, none, .store 1 (.t 77) (.t 71), [0, 6, 7, 12, 13], (.lone [3, 72])⟩,
sd 78 (.fieldA 0 (.t 65)) [0, 1, 6, 7, 8, 9, 10, 12, 13, 14],
sd 79 (.fieldA 4 (.t 78)) [0, 1, 6, 7, 8, 9, 10, 12, 13, 14, 15],
⟨none, none, .store 1 (.t 79) (.t 74), [0, 1, 6, 7, 8, 9, 10, 12, 13, 14, 15, 16], (.lone [])⟩,
sd 80 (.fieldA 0 (.t 66)) [0, 1, 2, 6, 7, 8, 9, 10, 12, 13, 14, 15, 16, 17],
sd 81 (.fieldA 5 (.t 80)) [0, 1, 2, 6, 7, 8, 9, 10, 12, 13, 14, 15, 16, 17, 18],
⟨none, none, .store 1 (.t 81) (kI 1), [0, 1, 2, 6, 7, 8, 9, 10, 12, 13, 14, 15, 16, 17, 18, 19], (.lone [])⟩,
sd 82 (.fieldA 0 (.t 67)) [0, 1, 2, 3, 6, 7, 8, 9, 10, 11, 12, 13, 14, 15, 16, 17, 18, 19, 20],
sd 83 (.fieldA 6 (.t 82)) [0, 1, 2, 3, 6, 7, 8, 9, 10, 11, 12, 13, 14, 15, 16, 17, 18, 19, 20, 21],
⟨none, none, .store 1 (.t 83) (.t 75), [0, 1, 2, 3, 6, 7, 8, 9, 10, 11, 12, 13, 14, 15, 16, 17, 18, 19, 20, 21, 22], (.lone [])⟩,
sd 84 (.fieldA 0 (.t 68)) [0, 1, 2, 3, 4, 6, 7, 8, 9, 10, 11, 12, 13, 14, 15, 16, 17, 18, 19, 20, 21, 22, 23],
sd 85 (.fieldA 7 (.t 84)) [0, 1, 2, 3, 4, 6, 7, 8, 9, 10, 11, 12, 13, 14, 15, 16, 17, 18, 19, 20, 21, 22, 23, 24],
⟨none, none, .store 1 (.t 85) (kB false), [0, 1, 2, 3, 4, 6, 7, 8, 9, 10, 11, 12, 13, 14, 15, 16, 17, 18, 19, 20, 21, 22, 23, 24, 25], (.lone [])⟩,
sd 86 (.fieldA 0 (.t 69)) [0, 1, 2, 3, 4, 5, 6, 7, 8, 9, 10, 11, 12, 13, 14, 15, 16, 17, 18, 19, 20, 21, 22, 23, 24, 25, 26],
sd 87 (.fieldA 8 (.t 86)) [0, 1, 2, 3, 4, 5, 6, 7, 8, 9, 10, 11, 12, 13, 14, 15, 16, 17, 18, 19, 20, 21, 22, 23, 24, 25, 26, 27],
⟨none, none, .store 1 (.t 87) (kI 0), [0, 1, 2, 3, 4, 5, 6, 7, 8, 9, 10, 11, 12, 13, 14, 15, 16, 17, 18, 19, 20, 21, 22, 23, 24, 25, 26, 27, 28], (.lone [])⟩]))
 (.seq (.reg [sq 88 (.load (some 6) (.t 3)),
sq 89 (.load (some 23) (.t 11)),
sq 90 (.call 36 [(.t 88), (kI 1), (.t 89)]),
sq 13 (.zbox [.d (.v (.int .i64 0)), .d (.v (.int .i64 0)), .d (.v (.int .i64 0)), .d (.v (.slice none 0 0)), .d (.v (.slice none 0 0)), .d (.v (.slice none 0 0))]),
su (.store 6 (.t 13) (.t 90))])
 (.seq (.reg [sq 91 (.fieldA 2 (.t 13)),
sq 92 (.load none (.t 91)),
sq 93 (.bin .add (.t 92) (kI 1)),
sq 94 (.fieldA 2 (.t 13)),
⟨none, none, .store 1 (.t 94) (.t 93), [], (.lone [13, 91, 13])⟩])
 (.seq (.regd [sq 95 (.load (some 6) (.t 13)),
sq 96 (.load (some 23) (.t 11)),
⟨none, none, .store 6 (.t 6) (.t 95), [0], (.lone [11])⟩,
⟨none, none, .store 23 (.t 7) (.t 96), [0, 1, 2], (.lone [])⟩,
sd 8 (.mv (kI 0)) [0, 1, 2, 3]])
 .ret)))))))))⟩
theorem a25_ok : afn Try.prog 25 = some a25.er := by kernel_rfl
theorem F25_ok {x0 : TStore} {x1 : Object} {x2 : Int} {r : Int × Int × Int × (List Object) × (List Object) × (List Change) × Object × Int} (h : F25 x0 x1 x2 = some r) : CallD Try.prog 25 [.agg [.d (.v (.int .i64 x0.Rev)), .d (.v (.int .i64 x0.Floor)), .d (.v (.int .i64 x0.NextUid)), .d (.sl (x0.Base.map eObject)), .d (.sl (x0.Objects.map eObject)), .d (.sl (x0.History.map eChange))], .agg [.d (.v (.string x1.Meta.Kind)), .d (.v (.string x1.Meta.Namespace)), .d (.v (.string x1.Meta.Name)), .d (.v (.int .i64 x1.Meta.Uid)), .d (.v (.int .i64 x1.Meta.Version)), .d (.v (.int .i64 x1.Meta.Generation)), .d (.v (.int .i64 x1.Meta.Created)), .d (.v (.bool x1.Meta.Deleting)), .d (.v (.int .i64 x1.Meta.DeleteAt)), .d (.sl (x1.Meta.Labels.map eLabel)), .d (.sl (x1.Meta.Owners.map eOwner)), .d (.sl (x1.Meta.Finalizers.map eS)), .d (.sl (x1.Meta.Managers.map eManager)), .d (.v (.int .i64 x1.Spec.Kind)), .d (.v (.int .i64 x1.Spec.N)), .d (.v (.string x1.Spec.S)), .d (.sl (x1.Spec.List_.map eTValue)), .d (.sl (x1.Spec.Fields.map eTField)), .d (.v (.int .i64 x1.Status.Kind)), .d (.v (.int .i64 x1.Status.N)), .d (.v (.string x1.Status.S)), .d (.sl (x1.Status.List_.map eTValue)), .d (.sl (x1.Status.Fields.map eTField))], .c (.d (.v (.int .i64 x2)))] [] (tupV [.agg [.d (.v (.int .i64 r.1)), .d (.v (.int .i64 r.2.1)), .d (.v (.int .i64 r.2.2.1)), .own 0 0 0 (r.2.2.2.1.length) none, .own 1 0 0 (r.2.2.2.2.1.length) none, .own 2 0 0 (r.2.2.2.2.2.1.length) none], .agg [.d (.v (.string ((r.2.2.2.2.2.2.1).Meta.Kind))), .d (.v (.string ((r.2.2.2.2.2.2.1).Meta.Namespace))), .d (.v (.string ((r.2.2.2.2.2.2.1).Meta.Name))), .d (.v (.int .i64 ((r.2.2.2.2.2.2.1).Meta.Uid))), .d (.v (.int .i64 ((r.2.2.2.2.2.2.1).Meta.Version))), .d (.v (.int .i64 ((r.2.2.2.2.2.2.1).Meta.Generation))), .d (.v (.int .i64 ((r.2.2.2.2.2.2.1).Meta.Created))), .d (.v (.bool ((r.2.2.2.2.2.2.1).Meta.Deleting))), .d (.v (.int .i64 ((r.2.2.2.2.2.2.1).Meta.DeleteAt))), .d (.sl (((r.2.2.2.2.2.2.1).Meta.Labels).map eLabel)), .d (.sl (((r.2.2.2.2.2.2.1).Meta.Owners).map eOwner)), .d (.sl (((r.2.2.2.2.2.2.1).Meta.Finalizers).map eS)), .d (.sl (((r.2.2.2.2.2.2.1).Meta.Managers).map eManager)), .d (.v (.int .i64 ((r.2.2.2.2.2.2.1).Spec.Kind))), .d (.v (.int .i64 ((r.2.2.2.2.2.2.1).Spec.N))), .d (.v (.string ((r.2.2.2.2.2.2.1).Spec.S))), .d (.sl (((r.2.2.2.2.2.2.1).Spec.List_).map eTValue)), .d (.sl (((r.2.2.2.2.2.2.1).Spec.Fields).map eTField)), .d (.v (.int .i64 ((r.2.2.2.2.2.2.1).Status.Kind))), .d (.v (.int .i64 ((r.2.2.2.2.2.2.1).Status.N))), .d (.v (.string ((r.2.2.2.2.2.2.1).Status.S))), .d (.sl (((r.2.2.2.2.2.2.1).Status.List_).map eTValue)), .d (.sl (((r.2.2.2.2.2.2.1).Status.Fields).map eTField))], .c (.d (.v (.int .i64 r.2.2.2.2.2.2.2)))]) [some (.arr 0 23 (r.2.2.2.1.map eObject)), some (.arr 0 23 (r.2.2.2.2.1.map eObject)), some (.arr 0 25 (r.2.2.2.2.2.1.map eChange))] := by
 refine callS a25_ok (by simp [a25]) ?_
 rw [F25] at h
 simp only [a25, VW.down, Nat.reduceEqDiff, reduceCtorEq, Nat.reduceAdd, Nat.reduceLeDiff, Nat.reduceLT, Nat.reduceBEq, Nat.reduceSub, EE.down]
 obtain ⟨t1, ht1, h⟩ := bi h
 refine cN [] (F33_ok ht1) trivial ?_
 refine ww ?_
 obtain ⟨t2, ht2, h⟩ := bi h
 refine cN [] (F51_ok ht2) trivial ?_
 refine ww ?_
 obtain ⟨o3, ho, h⟩ := bi h
 refine cutS (fun s => s = ⟨[(2, .one (.c (.d (.v (.int .i64 x2))))), (3, .one (.c (.pt 0 0))), (4, .one (.c (.pt 1 0))), (6, .one (.c (.pt 2 0))), (7, .one (.c (.pt 3 0))), (10, .one (.c (.d (.v (.bool t2.2))))), (23, .one (.c (.d (.v (.bool o3)))))], [some (.box [.d (.v (.int .i64 x0.Rev)), .d (.v (.int .i64 x0.Floor)), .d (.v (.int .i64 x0.NextUid)), .d (.sl (x0.Base.map eObject)), .d (.sl (x0.Objects.map eObject)), .d (.sl (x0.History.map eChange))]), some (.box [.d (.v (.string x1.Meta.Kind)), .d (.v (.string x1.Meta.Namespace)), .d (.v (.string x1.Meta.Name)), .d (.v (.int .i64 x1.Meta.Uid)), .d (.v (.int .i64 x1.Meta.Version)), .d (.v (.int .i64 x1.Meta.Generation)), .d (.v (.int .i64 x1.Meta.Created)), .d (.v (.bool x1.Meta.Deleting)), .d (.v (.int .i64 x1.Meta.DeleteAt)), .d (.sl (x1.Meta.Labels.map eLabel)), .d (.sl (x1.Meta.Owners.map eOwner)), .d (.sl (x1.Meta.Finalizers.map eS)), .d (.sl (x1.Meta.Managers.map eManager)), .d (.v (.int .i64 x1.Spec.Kind)), .d (.v (.int .i64 x1.Spec.N)), .d (.v (.string x1.Spec.S)), .d (.sl (x1.Spec.List_.map eTValue)), .d (.sl (x1.Spec.Fields.map eTField)), .d (.v (.int .i64 x1.Status.Kind)), .d (.v (.int .i64 x1.Status.N)), .d (.v (.string x1.Status.S)), .d (.sl (x1.Status.List_.map eTValue)), .d (.sl (x1.Status.Fields.map eTField))]), some (.box [.d (.v (.int .i64 0)), .d (.v (.int .i64 0)), .d (.v (.int .i64 0)), .d (.v (.slice none 0 0)), .d (.v (.slice none 0 0)), .d (.v (.slice none 0 0))]), some (.box [.d (.v (.string ((⟨#[]⟩ : ByteArray)))), .d (.v (.string ((⟨#[]⟩ : ByteArray)))), .d (.v (.string ((⟨#[]⟩ : ByteArray)))), .d (.v (.int .i64 0)), .d (.v (.int .i64 0)), .d (.v (.int .i64 0)), .d (.v (.int .i64 0)), .d (.v (.bool false)), .d (.v (.int .i64 0)), .d (.v (.slice none 0 0)), .d (.v (.slice none 0 0)), .d (.v (.slice none 0 0)), .d (.v (.slice none 0 0)), .d (.v (.int .i64 0)), .d (.v (.int .i64 0)), .d (.v (.string ((⟨#[]⟩ : ByteArray)))), .d (.v (.slice none 0 0)), .d (.v (.slice none 0 0)), .d (.v (.int .i64 0)), .d (.v (.int .i64 0)), .d (.v (.string ((⟨#[]⟩ : ByteArray)))), .d (.v (.slice none 0 0)), .d (.v (.slice none 0 0))])]⟩) ?_ ?_
 ·have h := ho
  clear ho
  refine ww ?_
  obtain ⟨t4, ht4, h⟩ := bi h
  refine cN [] (F31_ok ht4) trivial ?_
  refine ww ?_
  refine guardSBh h (fun g5 h => ?_) (fun g5 h => ?_)
  ·refine ww ?_
   obtain rfl := Option.some.inj h
   exact eM [some 0, some 1, some 2, some 3] rfl
  ·refine ww ?_
   refine guardSh h (fun g6 h => ?_) (fun g6 h => ?_)
   ·refine ww ?_
    obtain rfl := Option.some.inj h
    exact eM [some 0, some 1, some 2, some 3] rfl
   ·refine ww ?_
    obtain rfl := Option.some.inj h
    exact eM [some 0, some 1, some 2, some 3] rfl
 ·rintro _ rfl
  clear ho
  refine ww ?_
  refine condBh h (fun c7 h => ?_) (fun c7 h => ?_)
  ·refine ww ?_
   obtain ⟨t8, ht8, h⟩ := bi h
   refine cN [] (F32_ok ht8) trivial ?_
   refine ww ?_
   obtain rfl := Option.some.inj h
   exact eF [some 4, some 5, some 6]
  ·refine ww ?_
   refine condBh h (fun c9 h => ?_) (fun c9 h => ?_)
   ·refine ww ?_
    obtain ⟨t10, ht10, h⟩ := bi h
    refine cN [] (F32_ok ht10) trivial ?_
    refine ww ?_
    obtain rfl := Option.some.inj h
    exact eF [some 4, some 5, some 6]
   ·refine ww ?_
    obtain ⟨o11, ho, h⟩ := bi h
    refine cutS (fun s => s = ⟨[(2, .one (.c (.d (.v (.int .i64 x2))))), (3, .one (.c (.pt 0 0))), (4, .one (.c (.pt 1 0))), (6, .one (.c (.pt 2 0))), (7, .one (.c (.pt 3 0))), (43, .one (.c (.d (.v (.bool o11)))))], [some (.box [.d (.v (.int .i64 x0.Rev)), .d (.v (.int .i64 x0.Floor)), .d (.v (.int .i64 x0.NextUid)), .d (.sl (x0.Base.map eObject)), .d (.sl (x0.Objects.map eObject)), .d (.sl (x0.History.map eChange))]), some (.box [.d (.v (.string x1.Meta.Kind)), .d (.v (.string x1.Meta.Namespace)), .d (.v (.string x1.Meta.Name)), .d (.v (.int .i64 x1.Meta.Uid)), .d (.v (.int .i64 x1.Meta.Version)), .d (.v (.int .i64 x1.Meta.Generation)), .d (.v (.int .i64 x1.Meta.Created)), .d (.v (.bool x1.Meta.Deleting)), .d (.v (.int .i64 x1.Meta.DeleteAt)), .d (.sl (x1.Meta.Labels.map eLabel)), .d (.sl (x1.Meta.Owners.map eOwner)), .d (.sl (x1.Meta.Finalizers.map eS)), .d (.sl (x1.Meta.Managers.map eManager)), .d (.v (.int .i64 x1.Spec.Kind)), .d (.v (.int .i64 x1.Spec.N)), .d (.v (.string x1.Spec.S)), .d (.sl (x1.Spec.List_.map eTValue)), .d (.sl (x1.Spec.Fields.map eTField)), .d (.v (.int .i64 x1.Status.Kind)), .d (.v (.int .i64 x1.Status.N)), .d (.v (.string x1.Status.S)), .d (.sl (x1.Status.List_.map eTValue)), .d (.sl (x1.Status.Fields.map eTField))]), some (.box [.d (.v (.int .i64 0)), .d (.v (.int .i64 0)), .d (.v (.int .i64 0)), .d (.v (.slice none 0 0)), .d (.v (.slice none 0 0)), .d (.v (.slice none 0 0))]), some (.box [.d (.v (.string ((⟨#[]⟩ : ByteArray)))), .d (.v (.string ((⟨#[]⟩ : ByteArray)))), .d (.v (.string ((⟨#[]⟩ : ByteArray)))), .d (.v (.int .i64 0)), .d (.v (.int .i64 0)), .d (.v (.int .i64 0)), .d (.v (.int .i64 0)), .d (.v (.bool false)), .d (.v (.int .i64 0)), .d (.v (.slice none 0 0)), .d (.v (.slice none 0 0)), .d (.v (.slice none 0 0)), .d (.v (.slice none 0 0)), .d (.v (.int .i64 0)), .d (.v (.int .i64 0)), .d (.v (.string ((⟨#[]⟩ : ByteArray)))), .d (.v (.slice none 0 0)), .d (.v (.slice none 0 0)), .d (.v (.int .i64 0)), .d (.v (.int .i64 0)), .d (.v (.string ((⟨#[]⟩ : ByteArray)))), .d (.v (.slice none 0 0)), .d (.v (.slice none 0 0))])]⟩) ?_ ?_
    ·have h := ho
     clear ho
     refine ww ?_
     refine guardSh h (fun g12 h => ?_) (fun g12 h => ?_)
     ·refine ww ?_
      obtain rfl := Option.some.inj h
      exact eM [some 0, some 1, some 2, some 3] rfl
     ·refine ww ?_
      refine guardSh h (fun g13 h => ?_) (fun g13 h => ?_)
      ·refine ww ?_
       obtain rfl := Option.some.inj h
       exact eM [some 0, some 1, some 2, some 3] rfl
      ·refine ww ?_
       obtain rfl := Option.some.inj h
       exact eM [some 0, some 1, some 2, some 3] rfl
    ·rintro _ rfl
     clear ho
     refine ww ?_
     refine condBh h (fun c14 h => ?_) (fun c14 h => ?_)
     ·refine ww ?_
      obtain ⟨t15, ht15, h⟩ := bi h
      refine cN [] (F32_ok ht15) trivial ?_
      refine ww ?_
      obtain rfl := Option.some.inj h
      exact eF [some 4, some 5, some 6]
     ·refine ww ?_
      obtain ⟨t16, ht16, h⟩ := bi h
      refine cN [] (F34_ok ht16) trivial ?_
      refine ww ?_
      obtain ⟨o17, ho, h⟩ := bi h
      refine cutS (fun s => s = ⟨[(3, .one (.c (.pt 0 0))), (6, .one (.c (.pt 1 0))), (7, .one (.c (.pt 2 0))), (11, .one (.c (.pt 3 0)))], [some (.box [.d (.v (.int .i64 x0.Rev)), .d (.v (.int .i64 x0.Floor)), .d (.v (.int .i64 x0.NextUid)), .d (.sl (x0.Base.map eObject)), .d (.sl (x0.Objects.map eObject)), .d (.sl (x0.History.map eChange))]), some (.box [.d (.v (.int .i64 0)), .d (.v (.int .i64 0)), .d (.v (.int .i64 0)), .d (.v (.slice none 0 0)), .d (.v (.slice none 0 0)), .d (.v (.slice none 0 0))]), some (.box [.d (.v (.string ((⟨#[]⟩ : ByteArray)))), .d (.v (.string ((⟨#[]⟩ : ByteArray)))), .d (.v (.string ((⟨#[]⟩ : ByteArray)))), .d (.v (.int .i64 0)), .d (.v (.int .i64 0)), .d (.v (.int .i64 0)), .d (.v (.int .i64 0)), .d (.v (.bool false)), .d (.v (.int .i64 0)), .d (.v (.slice none 0 0)), .d (.v (.slice none 0 0)), .d (.v (.slice none 0 0)), .d (.v (.slice none 0 0)), .d (.v (.int .i64 0)), .d (.v (.int .i64 0)), .d (.v (.string ((⟨#[]⟩ : ByteArray)))), .d (.v (.slice none 0 0)), .d (.v (.slice none 0 0)), .d (.v (.int .i64 0)), .d (.v (.int .i64 0)), .d (.v (.string ((⟨#[]⟩ : ByteArray)))), .d (.v (.slice none 0 0)), .d (.v (.slice none 0 0))]), some (.box [.d (.v (.string x1.Meta.Kind)), .d (.v (.string x1.Meta.Namespace)), .d (.v (.string x1.Meta.Name)), .d (.v (.int .i64 x0.NextUid)), .d (.v (.int .i64 ((IntKind.i64.wrap (x0.Rev + 1))))), .d (.v (.int .i64 1)), .d (.v (.int .i64 x2)), .d (.v (.bool false)), .d (.v (.int .i64 0)), .d (.sl (t16.1.map eLabel)), .d (.sl (t16.2.1.map eOwner)), .d (.sl (t16.2.2.1.map eS)), .d (.sl (t16.2.2.2.1.map eManager)), .d (.v (.int .i64 t16.2.2.2.2.1)), .d (.v (.int .i64 t16.2.2.2.2.2.1)), .d (.v (.string t16.2.2.2.2.2.2.1)), .d (.sl (t16.2.2.2.2.2.2.2.1.map eTValue)), .d (.sl (t16.2.2.2.2.2.2.2.2.1.map eTField)), .d (.v (.int .i64 t16.2.2.2.2.2.2.2.2.2.1)), .d (.v (.int .i64 t16.2.2.2.2.2.2.2.2.2.2.1)), .d (.v (.string t16.2.2.2.2.2.2.2.2.2.2.2.1)), .d (.sl (t16.2.2.2.2.2.2.2.2.2.2.2.2.1.map eTValue)), .d (.sl (t16.2.2.2.2.2.2.2.2.2.2.2.2.2.map eTField))])]⟩) ?_ ?_
      ·have h := ho
       clear ho
       refine ww ?_
       obtain rfl := Option.some.inj h
       exact eM [some 0, some 2, some 3, some 8] rfl
      ·rintro _ rfl
       clear ho
       refine ww ?_
       obtain ⟨t18, ht18, h⟩ := bi h
       refine cN [] (F36_ok ht18) trivial ?_
       refine ww ?_
       obtain rfl := Option.some.inj h
       exact eF [some 4, some 5, some 6]

/- orchestrator/store.Get -/
def F21 (x0 : TStore) (x1 : ByteArray) : Option (ByteArray × ByteArray × ByteArray × Int × Int × Int × Int × Bool × Int × (List Label) × (List Owner) × (List ByteArray) × (List Manager) × Int × Int × ByteArray × ((List TValue)) × ((List TField)) × Int × Int × ByteArray × ((List TValue)) × ((List TField)) × Bool) := (F51 x0.Objects x1).bind fun t1 => (if t1.2 = true then (rdI x0.Objects t1.1).bind fun y3 => (F34 y3).bind fun t4 => some ((y3.Meta.Kind, y3.Meta.Namespace, y3.Meta.Name, y3.Meta.Uid, y3.Meta.Version, y3.Meta.Generation, y3.Meta.Created, y3.Meta.Deleting, y3.Meta.DeleteAt, t4.1, t4.2.1, t4.2.2.1, t4.2.2.2.1, t4.2.2.2.2.1, t4.2.2.2.2.2.1, t4.2.2.2.2.2.2.1, t4.2.2.2.2.2.2.2.1, t4.2.2.2.2.2.2.2.2.1, t4.2.2.2.2.2.2.2.2.2.1, t4.2.2.2.2.2.2.2.2.2.2.1, t4.2.2.2.2.2.2.2.2.2.2.2.1, t4.2.2.2.2.2.2.2.2.2.2.2.2.1, t4.2.2.2.2.2.2.2.2.2.2.2.2.2, true)) else some (((⟨#[]⟩ : ByteArray), (⟨#[]⟩ : ByteArray), (⟨#[]⟩ : ByteArray), 0, 0, 0, 0, false, 0, [], [], [], [], 0, 0, (⟨#[]⟩ : ByteArray), [], [], 0, 0, (⟨#[]⟩ : ByteArray), [], [], false)))
def a21 : AFn := ⟨23, [(.cell 4 (some 23)), (.tmp 5)],
 (.seq (.reg [sq 2 (.box (.t 0)),
sq 4 (.zbox [.d (.v (.string ⟨#[]⟩)), .d (.v (.string ⟨#[]⟩)), .d (.v (.string ⟨#[]⟩)), .d (.v (.int .i64 0)), .d (.v (.int .i64 0)), .d (.v (.int .i64 0)), .d (.v (.int .i64 0)), .d (.v (.bool false)), .d (.v (.int .i64 0)), .d (.v (.slice none 0 0)), .d (.v (.slice none 0 0)), .d (.v (.slice none 0 0)), .d (.v (.slice none 0 0)), .d (.v (.int .i64 0)), .d (.v (.int .i64 0)), .d (.v (.string ⟨#[]⟩)), .d (.v (.slice none 0 0)), .d (.v (.slice none 0 0)), .d (.v (.int .i64 0)), .d (.v (.int .i64 0)), .d (.v (.string ⟨#[]⟩)), .d (.v (.slice none 0 0)), .d (.v (.slice none 0 0))]),
sq 5 (.mv (kB false))])
 (.seq (.seq (.reg [sq 9 (.fieldA 4 (.t 2)),
sq 10 (.load none (.t 9)),
sq 11 (.mv (.t 1)),
sq 12 (.call 51 [(.t 10), (.t 11)]),
sq 8 (.mv (.t 12)),
sq 13 (.ext (.t 8) 0),
sq 14 (.ext (.t 8) 1),
sq 6 (.mv (.t 13)),
sq 7 (.mv (.t 14))])
 (.seq (.reg [sq 15 (.mv (.t 7))])
 (.cond (.t 15)
 (.seq (.reg [sq 16 (.fieldA 4 (.t 2)),
sq 17 (.load none (.t 16)),
sq 18 (.mv (.t 6)),
sq 19 (.indexA 23 (.t 17) (.t 18)),
sq 20 (.load (some 23) (.t 19)),
sq 21 (.call 34 [(.t 20)]),
su (.store 23 (.t 4) (.t 21)),
sq 5 (.mv (kB true))])
 .ret)
 .skip)))
 (.seq (.reg [sq 22 (.build [.d (.v (.string ⟨#[]⟩)), .d (.v (.string ⟨#[]⟩)), .d (.v (.string ⟨#[]⟩)), .d (.v (.int .i64 0)), .d (.v (.int .i64 0)), .d (.v (.int .i64 0)), .d (.v (.int .i64 0)), .d (.v (.bool false)), .d (.v (.int .i64 0)), .d (.v (.slice none 0 0)), .d (.v (.slice none 0 0)), .d (.v (.slice none 0 0)), .d (.v (.slice none 0 0)), .d (.v (.int .i64 0)), .d (.v (.int .i64 0)), .d (.v (.string ⟨#[]⟩)), .d (.v (.slice none 0 0)), .d (.v (.slice none 0 0)), .d (.v (.int .i64 0)), .d (.v (.int .i64 0)), .d (.v (.string ⟨#[]⟩)), .d (.v (.slice none 0 0)), .d (.v (.slice none 0 0))] []),
su (.store 23 (.t 4) (.t 22)),
sq 5 (.mv (kB false))])
 .ret)))⟩
theorem a21_ok : afn Try.prog 21 = some a21.er := by kernel_rfl
theorem F21_ok {x0 : TStore} {x1 : ByteArray} {r : ByteArray × ByteArray × ByteArray × Int × Int × Int × Int × Bool × Int × (List Label) × (List Owner) × (List ByteArray) × (List Manager) × Int × Int × ByteArray × ((List TValue)) × ((List TField)) × Int × Int × ByteArray × ((List TValue)) × ((List TField)) × Bool} (h : F21 x0 x1 = some r) : CallD Try.prog 21 [.agg [.d (.v (.int .i64 x0.Rev)), .d (.v (.int .i64 x0.Floor)), .d (.v (.int .i64 x0.NextUid)), .d (.sl (x0.Base.map eObject)), .d (.sl (x0.Objects.map eObject)), .d (.sl (x0.History.map eChange))], .c (.d (.v (.string x1)))] [] (tupV [.agg [.d (.v (.string r.1)), .d (.v (.string r.2.1)), .d (.v (.string r.2.2.1)), .d (.v (.int .i64 r.2.2.2.1)), .d (.v (.int .i64 r.2.2.2.2.1)), .d (.v (.int .i64 r.2.2.2.2.2.1)), .d (.v (.int .i64 r.2.2.2.2.2.2.1)), .d (.v (.bool r.2.2.2.2.2.2.2.1)), .d (.v (.int .i64 r.2.2.2.2.2.2.2.2.1)), .own 0 0 0 (r.2.2.2.2.2.2.2.2.2.1.length) none, .own 1 0 0 (r.2.2.2.2.2.2.2.2.2.2.1.length) none, .own 2 0 0 (r.2.2.2.2.2.2.2.2.2.2.2.1.length) none, .own 3 0 0 (r.2.2.2.2.2.2.2.2.2.2.2.2.1.length) none, .d (.v (.int .i64 r.2.2.2.2.2.2.2.2.2.2.2.2.2.1)), .d (.v (.int .i64 r.2.2.2.2.2.2.2.2.2.2.2.2.2.2.1)), .d (.v (.string r.2.2.2.2.2.2.2.2.2.2.2.2.2.2.2.1)), .d (.sl (r.2.2.2.2.2.2.2.2.2.2.2.2.2.2.2.2.1.map eTValue)), .d (.sl (r.2.2.2.2.2.2.2.2.2.2.2.2.2.2.2.2.2.1.map eTField)), .d (.v (.int .i64 r.2.2.2.2.2.2.2.2.2.2.2.2.2.2.2.2.2.2.1)), .d (.v (.int .i64 r.2.2.2.2.2.2.2.2.2.2.2.2.2.2.2.2.2.2.2.1)), .d (.v (.string r.2.2.2.2.2.2.2.2.2.2.2.2.2.2.2.2.2.2.2.2.1)), .d (.sl (r.2.2.2.2.2.2.2.2.2.2.2.2.2.2.2.2.2.2.2.2.2.1.map eTValue)), .d (.sl (r.2.2.2.2.2.2.2.2.2.2.2.2.2.2.2.2.2.2.2.2.2.2.1.map eTField))], .c (.d (.v (.bool r.2.2.2.2.2.2.2.2.2.2.2.2.2.2.2.2.2.2.2.2.2.2.2)))]) [some (.arr 0 2 (r.2.2.2.2.2.2.2.2.2.1.map eLabel)), some (.arr 0 5 (r.2.2.2.2.2.2.2.2.2.2.1.map eOwner)), some (.arr 0 1 (r.2.2.2.2.2.2.2.2.2.2.2.1.map eS)), some (.arr 0 2 (r.2.2.2.2.2.2.2.2.2.2.2.2.1.map eManager))] := by
 refine callS a21_ok (by simp [a21]) ?_
 rw [F21] at h
 simp only [a21, VW.down, Nat.reduceEqDiff, reduceCtorEq, Nat.reduceAdd, Nat.reduceLeDiff, Nat.reduceLT, Nat.reduceBEq, Nat.reduceSub, EE.down]
 obtain ⟨t1, ht1, h⟩ := bi h
 refine cN [] (F51_ok ht1) trivial ?_
 refine ww ?_
 refine condBh h (fun c2 h => ?_) (fun c2 h => ?_)
 ·refine ww ?_
  obtain ⟨y3, hy3, h⟩ := bi h
  refine t_idxF (enc := eObject) (xs := x0.Objects) rfl rfl hy3 rfl ?_
  refine ww ?_
  obtain ⟨t4, ht4, h⟩ := bi h
  refine cN [] (F34_ok ht4) trivial ?_
  refine ww ?_
  obtain rfl := Option.some.inj h
  exact eF [some 2, some 3, some 4, some 5]
 ·refine ww ?_
  obtain rfl := Option.some.inj h
  exact eF [none, none, none, none]

/- cmp.isNaN[int] -/
def F107 (x0 : Int) : Option (Unit) := some (())
def a107 : AFn := ⟨6, [(.tmp 2)],
 (.seq (.reg [sq 2 (.mv (kB false))])
 (.seq (.reg [sq 3 (.mv (.t 0)),
sq 4 (.mv (.t 0)),
sq 5 (.bin .neq (.t 3) (.t 4)),
sq 2 (.mv (.t 5))])
 .ret))⟩
theorem a107_ok : afn Try.prog 107 = some a107.er := by kernel_rfl
theorem F107_ok {x0 : Int} {r : Unit} (h : F107 x0 = some r) : CallD Try.prog 107 [.c (.d (.v (.int .i64 x0)))] [] (tupV [.c (.d (.v (.bool (decide (¬ (True))))))]) [] := by
 refine callS a107_ok (by simp [a107]) ?_
 rw [F107] at h
 simp only [a107, VW.down, Nat.reduceEqDiff, reduceCtorEq, Nat.reduceAdd, Nat.reduceLeDiff, Nat.reduceLT, Nat.reduceBEq, Nat.reduceSub, EE.down]
 obtain rfl := Option.some.inj h
 exact eF []

/- cmp.Compare[int] -/
def F91 (x0 : Int) (x1 : Int) : Option (Int) := (F107 x0).bind fun t1 => (F107 x1).bind fun t2 => (if ¬ (True) then (if ¬ (True) then some 0 else some ((-1))) else (if ¬ (True) then some 1 else (if x0 < x1 then some ((-1)) else (if x1 < x0 then some 1 else some 0))))
def a91 : AFn := ⟨20, [(.tmp 4)],
 (.seq (.reg [sq 4 (.mv (kI 0))])
 (.seq (.reg [sq 7 (.mv (.t 0)),
sq 8 (.call 107 [(.t 7)]),
sq 5 (.mv (.t 8))])
 (.seq (.reg [sq 9 (.mv (.t 1)),
sq 10 (.call 107 [(.t 9)]),
sq 6 (.mv (.t 10))])
 (.seq (.seq (.reg [sq 11 (.mv (.t 5))])
 (.cond (.t 11)
 (.seq (.seq (.reg [sq 12 (.mv (.t 6))])
 (.cond (.t 12)
 (.seq (.reg [sq 4 (.mv (kI 0))])
 .ret)
 .skip))
 (.seq (.reg [sq 4 (.mv (kI (-1)))])
 .ret))
 .skip))
 (.seq (.seq (.reg [sq 13 (.mv (.t 6))])
 (.cond (.t 13)
 (.seq (.reg [sq 4 (.mv (kI 1))])
 .ret)
 .skip))
 (.seq (.seq (.reg [sq 14 (.mv (.t 0)),
sq 15 (.mv (.t 1)),
sq 16 (.bin .lss (.t 14) (.t 15))])
 (.cond (.t 16)
 (.seq (.reg [sq 4 (.mv (kI (-1)))])
 .ret)
 .skip))
 (.seq (.seq (.reg [sq 17 (.mv (.t 0)),
sq 18 (.mv (.t 1)),
sq 19 (.bin .gtr (.t 17) (.t 18))])
 (.cond (.t 19)
 (.seq (.reg [sq 4 (.mv (kI 1))])
 .ret)
 .skip))
 (.seq (.reg [sq 4 (.mv (kI 0))])
 .ret))))))))⟩
theorem a91_ok : afn Try.prog 91 = some a91.er := by kernel_rfl
theorem F91_ok {x0 : Int} {x1 : Int} {r : Int} (h : F91 x0 x1 = some r) : CallD Try.prog 91 [.c (.d (.v (.int .i64 x0))), .c (.d (.v (.int .i64 x1)))] [] (tupV [.c (.d (.v (.int .i64 r)))]) [] := by
 refine callS a91_ok (by simp [a91]) ?_
 rw [F91] at h
 simp only [a91, VW.down, Nat.reduceEqDiff, reduceCtorEq, Nat.reduceAdd, Nat.reduceLeDiff, Nat.reduceLT, Nat.reduceBEq, Nat.reduceSub, EE.down]
 obtain ⟨t1, ht1, h⟩ := bi h
 refine cN [] (F107_ok ht1) trivial ?_
 refine ww ?_
 obtain ⟨t2, ht2, h⟩ := bi h
 refine cN [] (F107_ok ht2) trivial ?_
 refine ww ?_
 refine condSh h (fun c3 h => ?_) (fun c3 h => ?_)
 ·refine ww ?_
  refine condSh h (fun c4 h => ?_) (fun c4 h => ?_)
  ·refine ww ?_
   obtain rfl := Option.some.inj h
   exact eF []
  ·refine ww ?_
   obtain rfl := Option.some.inj h
   exact eF []
 ·refine ww ?_
  refine condSh h (fun c5 h => ?_) (fun c5 h => ?_)
  ·refine ww ?_
   obtain rfl := Option.some.inj h
   exact eF []
  ·refine ww ?_
   refine condSh h (fun c6 h => ?_) (fun c6 h => ?_)
   ·refine ww ?_
    obtain rfl := Option.some.inj h
    exact eF []
   ·refine ww ?_
    refine condSh h (fun c7 h => ?_) (fun c7 h => ?_)
    ·refine ww ?_
     obtain rfl := Option.some.inj h
     exact eF []
    ·refine ww ?_
     obtain rfl := Option.some.inj h
     exact eF []

/- cmp.Or[int] -/
def F90_l1  : List Int → Nat → Option ((Int) ⊕ (Unit))
  | [], o1_0 => some (Sum.inr (()))
  | xo1 :: xs, o1_0 => (if ¬ (xo1 = 0) then (some xo1).map Sum.inl else F90_l1  xs (o1_0 + 1))
def F90 (x0 : (List Int)) : Option (Int) := (((ck (0 ≤ x0.length ∧ x0.length ≤ 4294967290)).bind fun u4 => F90_l1 x0 0 : Option ((Int) ⊕ (Unit))).bind fun o1 => match o1 with | Sum.inl f => some f | Sum.inr po1 => some 0)
def a90 : AFn := ⟨18, [(.tmp 2)],
 (.seq (.reg [sq 2 (.mv (kI 0))])
 (.seq (.reg [sq 3 (.mv (kI 0))])
 (.seq (.seq (.reg [sq 6 (.mv (.t 0)),
sq 7 (.len (.t 6)),
sq 8 (.mv (kI 0))])
 (.sem (.block 0 (.loop (.seq (.reg [sq 9 (.bin .lss (.t 8) (.t 7))])
 (.seq (.cond (.t 9)
 .skip
 (.exit 0))
 (.seq (.block 1 (.seq (.reg [sq 10 (.indexA 1 (.t 6) (.t 8)),
sq 11 (.load none (.t 10)),
sq 5 (.mv (.t 11))])
 (.seq (.reg [sq 12 (.mv (.t 5)),
sq 13 (.mv (.t 3)),
sq 14 (.bin .neq (.t 12) (.t 13))])
 (.cond (.t 14)
 (.seq (.reg [sq 15 (.mv (.t 5)),
sq 2 (.mv (.t 15))])
 .ret)
 .skip))))
 (.reg [sq 16 (.bin .add (.t 8) (kI 1)),
sq 8 (.mv (.t 16))]))))))))
 (.seq (.reg [sq 17 (.mv (.t 3)),
sq 2 (.mv (.t 17))])
 .ret))))⟩
theorem a90_ok : afn Try.prog 90 = some a90.er := by kernel_rfl
theorem F90_ok {x0 : (List Int)} {r : Int} (h : F90 x0 = some r) : CallD Try.prog 90 [.c (.d (.sl (x0.map eI)))] [] (tupV [.c (.d (.v (.int .i64 r)))]) [] := by
 refine callS a90_ok (by simp [a90]) ?_
 rw [F90] at h
 simp only [a90, VW.down, Nat.reduceEqDiff, reduceCtorEq, Nat.reduceAdd, Nat.reduceLeDiff, Nat.reduceLT, Nat.reduceBEq, Nat.reduceSub, EE.down]
 obtain ⟨o1, ho, h⟩ := bi h
 refine cutS (fun s => ∃ po1, o1 = Sum.inr po1 ∧ s = ⟨[(3, .one (.c (.d (.v (.int .i64 0)))))], []⟩) ?_ ?_
 ·have h0o1 := h
  have h := ho
  clear ho
  obtain ⟨_, hk, h⟩ := bi h
  have hk := ck_some hk
  refine ww ?_
  refine bL (fun j s => ∃ (o1_0 : Nat), (o1_0 ≤ x0.length ∧ j = x0.length - o1_0) ∧ s = ⟨[(3, .one (.c (.d (.v (.int .i64 0))))), (6, .one (.c (.d (.sl (x0.map eI))))), (7, .one (.c (.d (.v (.int .i64 ((x0.length : Int))))))), (8, .one (.c (.d (.v (.int .i64 ((o1_0 : Int)))))))], []⟩ ∧ F90_l1 (x0.drop o1_0) o1_0 = some o1) (x0.length - 0) [] ⟨0, ⟨hk.1, rfl⟩, rfl, h⟩ ?_
  rintro _ _ ⟨o1_0, ⟨hi, rfl⟩, rfl, h⟩
  refine ww ?_
  refine condS (fun c2 => ?_) (fun c2 => ?_)
  ·obtain ⟨xo1, hxo1, hd⟩ := countY (show (o1_0 : Int) < (x0.length : Int) from c2)
   rw [hd, F90_l1] at h
   refine ww ?_
   refine t_idxF (enc := eI) (xs := x0) rfl rfl hxo1 rfl ?_
   refine ww ?_
   refine condSh h (fun c3 h => ?_) (fun c3 h => ?_)
   ·refine ww ?_
    obtain ⟨fh0o1, hfh0o1, rfl⟩ := Option.map_eq_some_iff.1 h
    have h := hfh0o1.trans h0o1
    obtain rfl := Option.some.inj h
    exact eF []
   ·refine ww ?_
    rw [wrapN (by omega)]
    exact eL' (x0.length - (o1_0 + 1)) [] ⟨o1_0 + 1, ⟨by omega, rfl⟩, rfl, h⟩ (by omega)
  ·rw [countN (show ¬ ((o1_0 : Int) < (x0.length : Int)) from c2), F90_l1] at h
   refine ww ?_
   obtain rfl := Option.some.inj h
   exact eM [] ⟨_, rfl, rfl⟩
 ·rintro _ ⟨po1, rfl, rfl⟩
  clear ho
  dsimp only at h
  refine ww ?_
  obtain rfl := Option.some.inj h
  exact eF []

/- slices.CompareFunc[[]orchestrator/api.Value,[]orchestrator/api.Value,orchestrator/api.Value,orchestrator/api.Value] -/
def F92_l1 (rc49 : TValue → TValue → Option (Int)) (x1 : (List TValue)) : List TValue → Nat → Option ((Int) ⊕ (Unit))
  | [], o1_0 => some (Sum.inr (()))
  | xo1 :: xs, o1_0 => (if (x1.length : Int) ≤ (o1_0 : Int) then (some 1).map Sum.inl else (rdI x1 ((o1_0 : Int))).bind fun y4 => (rc49 xo1 y4).bind fun t5 => (if ¬ (t5 = 0) then (some t5).map Sum.inl else F92_l1 rc49 x1 xs (o1_0 + 1)))
def F92 (rc49 : TValue → TValue → Option (Int)) (x0 : (List TValue)) (x1 : (List TValue)) : Option (Int) := (((ck (0 ≤ x0.length ∧ x0.length ≤ 4294967290)).bind fun u7 => F92_l1 rc49 x1 x0 0 : Option ((Int) ⊕ (Unit))).bind fun o1 => match o1 with | Sum.inl f => some f | Sum.inr po1 => (if (x0.length : Int) < (x1.length : Int) then some ((-1)) else some 0))
def a92 : AFn := ⟨39, [(.tmp 6)],
 (.seq (.reg [sq 6 (.mv (kI 0))])
 (.seq (.seq (.reg [sq 11 (.mv (.t 0)),
sq 12 (.len (.t 11)),
sq 13 (.mv (kI 0))])
 (.sem (.block 0 (.loop (.seq (.reg [sq 14 (.bin .lss (.t 13) (.t 12))])
 (.seq (.cond (.t 14)
 .skip
 (.exit 0))
 (.seq (.block 1 (.seq (.reg [sq 15 (.mv (.t 13)),
sq 16 (.indexA 5 (.t 11) (.t 13)),
sq 17 (.load (some 5) (.t 16)),
sq 8 (.zbox [.d (.v (.int .i64 0)), .d (.v (.int .i64 0)), .d (.v (.string ⟨#[]⟩)), .d (.v (.slice none 0 0)), .d (.v (.slice none 0 0))]),
sq 7 (.mv (.t 15)),
su (.store 5 (.t 8) (.t 17))])
 (.seq (.seq (.reg [sq 18 (.mv (.t 7)),
sq 19 (.mv (.t 1)),
sq 20 (.len (.t 19)),
sq 21 (.bin .geq (.t 18) (.t 20))])
 (.cond (.t 21)
 (.seq (.reg [sq 6 (.mv (kI 1))])
 .ret)
 .skip))
 (.seq (.reg [sq 22 (.mv (.t 1)),
sq 23 (.mv (.t 7)),
sq 24 (.indexA 5 (.t 22) (.t 23)),
sq 25 (.load (some 5) (.t 24)),
sq 9 (.zbox [.d (.v (.int .i64 0)), .d (.v (.int .i64 0)), .d (.v (.string ⟨#[]⟩)), .d (.v (.slice none 0 0)), .d (.v (.slice none 0 0))]),
su (.store 5 (.t 9) (.t 25))])
 (.seq (.reg [sq 26 (.mv (.t 2)),
sq 27 (.load (some 5) (.t 8)),
sq 28 (.load (some 5) (.t 9)),
sq 29 (.callv (.t 26) [(.t 27), (.t 28)]),
sq 10 (.mv (.t 29))])
 (.seq (.reg [sq 30 (.mv (.t 10)),
sq 31 (.bin .neq (.t 30) (kI 0))])
 (.cond (.t 31)
 (.seq (.reg [sq 32 (.mv (.t 10)),
sq 6 (.mv (.t 32))])
 .ret)
 .skip)))))))
 (.reg [sq 33 (.bin .add (.t 13) (kI 1)),
sq 13 (.mv (.t 33))]))))))))
 (.seq (.seq (.reg [sq 34 (.mv (.t 0)),
sq 35 (.len (.t 34)),
sq 36 (.mv (.t 1)),
sq 37 (.len (.t 36)),
sq 38 (.bin .lss (.t 35) (.t 37))])
 (.cond (.t 38)
 (.seq (.reg [sq 6 (.mv (kI (-1)))])
 .ret)
 .skip))
 (.seq (.reg [sq 6 (.mv (kI 0))])
 .ret))))⟩
theorem a92_ok : afn Try.prog 92 = some a92.er := by kernel_rfl
theorem F92_ok {rc49 : TValue → TValue → Option (Int)} (ih49 : ∀ {x0 : TValue} {x1 : TValue} {r : Int} (h : rc49 x0 x1 = some r), CallD Try.prog 67 [.agg [.d (.v (.int .i64 x0.Kind)), .d (.v (.int .i64 x0.N)), .d (.v (.string x0.S)), .d (.sl (x0.List_.map eTValue)), .d (.sl (x0.Fields.map eTField))], .agg [.d (.v (.int .i64 x1.Kind)), .d (.v (.int .i64 x1.N)), .d (.v (.string x1.S)), .d (.sl (x1.List_.map eTValue)), .d (.sl (x1.Fields.map eTField))]] [] (tupV [.c (.d (.v (.int .i64 r)))]) [])  {x0 : (List TValue)} {x1 : (List TValue)} {r : Int} (h : F92 rc49 x0 x1 = some r) : CallD Try.prog 92 [.c (.d (.sl (x0.map eTValue))), .c (.d (.sl (x1.map eTValue))), .c (.fn 67 [])] [] (tupV [.c (.d (.v (.int .i64 r)))]) [] := by
 refine callS a92_ok (by simp [a92]) ?_
 rw [F92] at h
 simp only [a92, VW.down, Nat.reduceEqDiff, reduceCtorEq, Nat.reduceAdd, Nat.reduceLeDiff, Nat.reduceLT, Nat.reduceBEq, Nat.reduceSub, EE.down]
 obtain ⟨o1, ho, h⟩ := bi h
 refine cutS (fun s => ∃ po1, o1 = Sum.inr po1 ∧ s = ⟨[(0, .one (.c (.d (.sl (x0.map eTValue))))), (1, .one (.c (.d (.sl (x1.map eTValue)))))], []⟩) ?_ ?_
 ·have h0o1 := h
  have h := ho
  clear ho
  obtain ⟨_, hk, h⟩ := bi h
  have hk := ck_some hk
  refine ww ?_
  refine bL (fun j s => ∃ (o1_0 : Nat), (o1_0 ≤ x0.length ∧ j = x0.length - o1_0) ∧ s = ⟨[(0, .one (.c (.d (.sl (x0.map eTValue))))), (1, .one (.c (.d (.sl (x1.map eTValue))))), (2, .one (.c (.fn 67 []))), (11, .one (.c (.d (.sl (x0.map eTValue))))), (12, .one (.c (.d (.v (.int .i64 ((x0.length : Int))))))), (13, .one (.c (.d (.v (.int .i64 ((o1_0 : Int)))))))], []⟩ ∧ F92_l1 rc49 x1 (x0.drop o1_0) o1_0 = some o1) (x0.length - 0) [] ⟨0, ⟨hk.1, rfl⟩, rfl, h⟩ ?_
  rintro _ _ ⟨o1_0, ⟨hi, rfl⟩, rfl, h⟩
  refine ww ?_
  refine condS (fun c2 => ?_) (fun c2 => ?_)
  ·obtain ⟨xo1, hxo1, hd⟩ := countY (show (o1_0 : Int) < (x0.length : Int) from c2)
   rw [hd, F92_l1] at h
   refine ww ?_
   refine t_idxF (enc := eTValue) (xs := x0) rfl rfl hxo1 (by rw [eTValue_u]; rfl) ?_
   refine ww ?_
   refine condSh h (fun c3 h => ?_) (fun c3 h => ?_)
   ·refine ww ?_
    obtain ⟨fh0o1, hfh0o1, rfl⟩ := Option.map_eq_some_iff.1 h
    have h := hfh0o1.trans h0o1
    obtain rfl := Option.some.inj h
    exact eF []
   ·refine ww ?_
    obtain ⟨y4, hy4, h⟩ := bi h
    refine t_idxF (enc := eTValue) (xs := x1) rfl rfl hy4 (by rw [eTValue_u]; rfl) ?_
    refine ww ?_
    obtain ⟨t5, ht5, h⟩ := bi h
    refine cN [] (ih49 ht5) trivial ?_
    refine ww ?_
    refine condSh h (fun c6 h => ?_) (fun c6 h => ?_)
    ·refine ww ?_
     obtain ⟨fh0o1, hfh0o1, rfl⟩ := Option.map_eq_some_iff.1 h
     have h := hfh0o1.trans h0o1
     obtain rfl := Option.some.inj h
     exact eF []
    ·refine ww ?_
     rw [wrapN (by omega)]
     exact eL' (x0.length - (o1_0 + 1)) [] ⟨o1_0 + 1, ⟨by omega, rfl⟩, rfl, h⟩ (by omega)
  ·rw [countN (show ¬ ((o1_0 : Int) < (x0.length : Int)) from c2), F92_l1] at h
   refine ww ?_
   obtain rfl := Option.some.inj h
   exact eM [] ⟨_, rfl, rfl⟩
 ·rintro _ ⟨po1, rfl, rfl⟩
  clear ho
  dsimp only at h
  refine ww ?_
  refine condSh h (fun c8 h => ?_) (fun c8 h => ?_)
  ·refine ww ?_
   obtain rfl := Option.some.inj h
   exact eF []
  ·refine ww ?_
   obtain rfl := Option.some.inj h
   exact eF []

/- orchestrator/value.Compare$1 -/
def F94 (rc49 : TValue → TValue → Option (Int)) (x0 : TField) (x1 : TField) : Option (Int) := (F73 x0.Name x1.Name).bind fun t1 => (rc49 x0.V x1.V).bind fun t2 => (F90 ([t1, t2])).bind fun t3 => some t3
def a94 : AFn := ⟨17, [(.tmp 4)],
 (.seq (.reg [sq 2 (.box (.t 0)),
sq 3 (.box (.t 1)),
sq 4 (.mv (kI 0))])
 (.seq (.regd [sq 5 (.fieldA 0 (.t 2)),
sd 6 (.load none (.t 5)) [0],
sq 7 (.fieldA 0 (.t 3)),
sd 8 (.load none (.t 7)) [2],
⟨(some 9), none, .call 73 [(.t 6), (.t 8)], [0, 1, 2, 3], (.new [0, 1, 2, 3])⟩,
sq 10 (.fieldA 1 (.t 2)),
sd 11 (.load (some 5) (.t 10)) [5],
sq 12 (.fieldA 1 (.t 3)),
sd 13 (.load (some 5) (.t 12)) [7],
⟨(some 14), none, .call 67 [(.t 11), (.t 13)], [0, 1, 2, 3, 4, 5, 6, 7, 8], (.lone [])⟩,
⟨(some 15), none, .bslice 1 [(.t 9), (.t 14)], [0, 1, 2, 3, 4, 5, 6, 7, 8, 9], (.lone [])⟩,
⟨(some 16), none, .call 90 [(.t 15)], [0, 1, 2, 3, 4, 5, 6, 7, 8, 9, 10], (.lone [])⟩,
sd 4 (.mv (.t 16)) [0, 1, 2, 3, 4, 5, 6, 7, 8, 9, 10, 11]])
 .ret))⟩
theorem a94_ok : afn Try.prog 94 = some a94.er := by kernel_rfl
theorem F94_ok {rc49 : TValue → TValue → Option (Int)} (ih49 : ∀ {x0 : TValue} {x1 : TValue} {r : Int} (h : rc49 x0 x1 = some r), CallD Try.prog 67 [.agg [.d (.v (.int .i64 x0.Kind)), .d (.v (.int .i64 x0.N)), .d (.v (.string x0.S)), .d (.sl (x0.List_.map eTValue)), .d (.sl (x0.Fields.map eTField))], .agg [.d (.v (.int .i64 x1.Kind)), .d (.v (.int .i64 x1.N)), .d (.v (.string x1.S)), .d (.sl (x1.List_.map eTValue)), .d (.sl (x1.Fields.map eTField))]] [] (tupV [.c (.d (.v (.int .i64 r)))]) [])  {x0 : TField} {x1 : TField} {r : Int} (h : F94 rc49 x0 x1 = some r) : CallD Try.prog 94 [.agg [.d (.v (.string x0.Name)), .d (.v (.int .i64 x0.V.Kind)), .d (.v (.int .i64 x0.V.N)), .d (.v (.string x0.V.S)), .d (.sl (x0.V.List_.map eTValue)), .d (.sl (x0.V.Fields.map eTField))], .agg [.d (.v (.string x1.Name)), .d (.v (.int .i64 x1.V.Kind)), .d (.v (.int .i64 x1.V.N)), .d (.v (.string x1.V.S)), .d (.sl (x1.V.List_.map eTValue)), .d (.sl (x1.V.Fields.map eTField))]] [] (tupV [.c (.d (.v (.int .i64 r)))]) [] := by
 refine callS a94_ok (by simp [a94]) ?_
 rw [F94] at h
 simp only [a94, VW.down, Nat.reduceEqDiff, reduceCtorEq, Nat.reduceAdd, Nat.reduceLeDiff, Nat.reduceLT, Nat.reduceBEq, Nat.reduceSub, EE.down]
 obtain ⟨t1, ht1, h⟩ := bi h
 refine cN [] (F73_ok ht1) trivial ?_
 refine ww ?_
 obtain ⟨t2, ht2, h⟩ := bi h
 refine cN [] (ih49 ht2) trivial ?_
 refine ww ?_
 refine t_bslice (enc := eI) (ys := [t1, t2]) rfl rfl (by simp [A1.cells]) (by first | rfl | (simp only [List.drop_zero, take_mapL]; rfl) | (simp only [lit, List.map_cons, List.map_nil, List.drop_zero, take_mapL, EE.down]; done) | (simp only [lit, List.map_cons, List.map_nil, List.drop_zero, take_mapL, EE.down]; rfl)) ?_
 refine ww ?_
 obtain ⟨t3, ht3, h⟩ := bi h
 refine callX_bor (F90_ok ht3) (by simp only [borAs, bors, hp, List.getElem?_cons_zero, List.getElem?_cons_succ, Option.join_some, List.drop_zero, bor_full', true_and, Nat.zero_add, List.length_map, Nat.le_refl, nrm, List.length_cons, List.length_nil, Nat.reduceAdd, Nat.reduceLeDiff, List.take_succ_cons, List.take_zero, List.take_nil, List.map_cons, List.map_nil, List.length_set, EE.down]) rfl ?_
 refine ww ?_
 obtain rfl := Option.some.inj h
 exact eF []

/- slices.CompareFunc[[]orchestrator/api.Field,[]orchestrator/api.Field,orchestrator/api.Field,orchestrator/api.Field] -/
def F93_l1 (rc49 : TValue → TValue → Option (Int)) (x1 : (List TField)) : List TField → Nat → Option ((Int) ⊕ (Unit))
  | [], o1_0 => some (Sum.inr (()))
  | xo1 :: xs, o1_0 => (if (x1.length : Int) ≤ (o1_0 : Int) then (some 1).map Sum.inl else (rdI x1 ((o1_0 : Int))).bind fun y4 => (F94 rc49 xo1 y4).bind fun t5 => (if ¬ (t5 = 0) then (some t5).map Sum.inl else F93_l1 rc49 x1 xs (o1_0 + 1)))
def F93 (rc49 : TValue → TValue → Option (Int)) (x0 : (List TField)) (x1 : (List TField)) : Option (Int) := (((ck (0 ≤ x0.length ∧ x0.length ≤ 4294967290)).bind fun u7 => F93_l1 rc49 x1 x0 0 : Option ((Int) ⊕ (Unit))).bind fun o1 => match o1 with | Sum.inl f => some f | Sum.inr po1 => (if (x0.length : Int) < (x1.length : Int) then some ((-1)) else some 0))
def a93 : AFn := ⟨39, [(.tmp 6)],
 (.seq (.reg [sq 6 (.mv (kI 0))])
 (.seq (.seq (.reg [sq 11 (.mv (.t 0)),
sq 12 (.len (.t 11)),
sq 13 (.mv (kI 0))])
 (.sem (.block 0 (.loop (.seq (.reg [sq 14 (.bin .lss (.t 13) (.t 12))])
 (.seq (.cond (.t 14)
 .skip
 (.exit 0))
 (.seq (.block 1 (.seq (.reg [sq 15 (.mv (.t 13)),
sq 16 (.indexA 6 (.t 11) (.t 13)),
sq 17 (.load (some 6) (.t 16)),
sq 8 (.zbox [.d (.v (.string ⟨#[]⟩)), .d (.v (.int .i64 0)), .d (.v (.int .i64 0)), .d (.v (.string ⟨#[]⟩)), .d (.v (.slice none 0 0)), .d (.v (.slice none 0 0))]),
sq 7 (.mv (.t 15)),
su (.store 6 (.t 8) (.t 17))])
 (.seq (.seq (.reg [sq 18 (.mv (.t 7)),
sq 19 (.mv (.t 1)),
sq 20 (.len (.t 19)),
sq 21 (.bin .geq (.t 18) (.t 20))])
 (.cond (.t 21)
 (.seq (.reg [sq 6 (.mv (kI 1))])
 .ret)
 .skip))
 (.seq (.reg [sq 22 (.mv (.t 1)),
sq 23 (.mv (.t 7)),
sq 24 (.indexA 6 (.t 22) (.t 23)),
sq 25 (.load (some 6) (.t 24)),
sq 9 (.zbox [.d (.v (.string ⟨#[]⟩)), .d (.v (.int .i64 0)), .d (.v (.int .i64 0)), .d (.v (.string ⟨#[]⟩)), .d (.v (.slice none 0 0)), .d (.v (.slice none 0 0))]),
su (.store 6 (.t 9) (.t 25))])
 (.seq (.reg [sq 26 (.mv (.t 2)),
sq 27 (.load (some 6) (.t 8)),
sq 28 (.load (some 6) (.t 9)),
sq 29 (.callv (.t 26) [(.t 27), (.t 28)]),
sq 10 (.mv (.t 29))])
 (.seq (.reg [sq 30 (.mv (.t 10)),
sq 31 (.bin .neq (.t 30) (kI 0))])
 (.cond (.t 31)
 (.seq (.reg [sq 32 (.mv (.t 10)),
sq 6 (.mv (.t 32))])
 .ret)
 .skip)))))))
 (.reg [sq 33 (.bin .add (.t 13) (kI 1)),
sq 13 (.mv (.t 33))]))))))))
 (.seq (.seq (.reg [sq 34 (.mv (.t 0)),
sq 35 (.len (.t 34)),
sq 36 (.mv (.t 1)),
sq 37 (.len (.t 36)),
sq 38 (.bin .lss (.t 35) (.t 37))])
 (.cond (.t 38)
 (.seq (.reg [sq 6 (.mv (kI (-1)))])
 .ret)
 .skip))
 (.seq (.reg [sq 6 (.mv (kI 0))])
 .ret))))⟩
theorem a93_ok : afn Try.prog 93 = some a93.er := by kernel_rfl
theorem F93_ok {rc49 : TValue → TValue → Option (Int)} (ih49 : ∀ {x0 : TValue} {x1 : TValue} {r : Int} (h : rc49 x0 x1 = some r), CallD Try.prog 67 [.agg [.d (.v (.int .i64 x0.Kind)), .d (.v (.int .i64 x0.N)), .d (.v (.string x0.S)), .d (.sl (x0.List_.map eTValue)), .d (.sl (x0.Fields.map eTField))], .agg [.d (.v (.int .i64 x1.Kind)), .d (.v (.int .i64 x1.N)), .d (.v (.string x1.S)), .d (.sl (x1.List_.map eTValue)), .d (.sl (x1.Fields.map eTField))]] [] (tupV [.c (.d (.v (.int .i64 r)))]) [])  {x0 : (List TField)} {x1 : (List TField)} {r : Int} (h : F93 rc49 x0 x1 = some r) : CallD Try.prog 93 [.c (.d (.sl (x0.map eTField))), .c (.d (.sl (x1.map eTField))), .c (.fn 94 [])] [] (tupV [.c (.d (.v (.int .i64 r)))]) [] := by
 refine callS a93_ok (by simp [a93]) ?_
 rw [F93] at h
 simp only [a93, VW.down, Nat.reduceEqDiff, reduceCtorEq, Nat.reduceAdd, Nat.reduceLeDiff, Nat.reduceLT, Nat.reduceBEq, Nat.reduceSub, EE.down]
 obtain ⟨o1, ho, h⟩ := bi h
 refine cutS (fun s => ∃ po1, o1 = Sum.inr po1 ∧ s = ⟨[(0, .one (.c (.d (.sl (x0.map eTField))))), (1, .one (.c (.d (.sl (x1.map eTField)))))], []⟩) ?_ ?_
 ·have h0o1 := h
  have h := ho
  clear ho
  obtain ⟨_, hk, h⟩ := bi h
  have hk := ck_some hk
  refine ww ?_
  refine bL (fun j s => ∃ (o1_0 : Nat), (o1_0 ≤ x0.length ∧ j = x0.length - o1_0) ∧ s = ⟨[(0, .one (.c (.d (.sl (x0.map eTField))))), (1, .one (.c (.d (.sl (x1.map eTField))))), (2, .one (.c (.fn 94 []))), (11, .one (.c (.d (.sl (x0.map eTField))))), (12, .one (.c (.d (.v (.int .i64 ((x0.length : Int))))))), (13, .one (.c (.d (.v (.int .i64 ((o1_0 : Int)))))))], []⟩ ∧ F93_l1 rc49 x1 (x0.drop o1_0) o1_0 = some o1) (x0.length - 0) [] ⟨0, ⟨hk.1, rfl⟩, rfl, h⟩ ?_
  rintro _ _ ⟨o1_0, ⟨hi, rfl⟩, rfl, h⟩
  refine ww ?_
  refine condS (fun c2 => ?_) (fun c2 => ?_)
  ·obtain ⟨xo1, hxo1, hd⟩ := countY (show (o1_0 : Int) < (x0.length : Int) from c2)
   rw [hd, F93_l1] at h
   refine ww ?_
   refine t_idxF (enc := eTField) (xs := x0) rfl rfl hxo1 (by rw [eTField_u]; rfl) ?_
   refine ww ?_
   refine condSh h (fun c3 h => ?_) (fun c3 h => ?_)
   ·refine ww ?_
    obtain ⟨fh0o1, hfh0o1, rfl⟩ := Option.map_eq_some_iff.1 h
    have h := hfh0o1.trans h0o1
    obtain rfl := Option.some.inj h
    exact eF []
   ·refine ww ?_
    obtain ⟨y4, hy4, h⟩ := bi h
    refine t_idxF (enc := eTField) (xs := x1) rfl rfl hy4 (by rw [eTField_u]; rfl) ?_
    refine ww ?_
    obtain ⟨t5, ht5, h⟩ := bi h
    refine cN [] (F94_ok ih49 ht5) trivial ?_
    refine ww ?_
    refine condSh h (fun c6 h => ?_) (fun c6 h => ?_)
    ·refine ww ?_
     obtain ⟨fh0o1, hfh0o1, rfl⟩ := Option.map_eq_some_iff.1 h
     have h := hfh0o1.trans h0o1
     obtain rfl := Option.some.inj h
     exact eF []
    ·refine ww ?_
     rw [wrapN (by omega)]
     exact eL' (x0.length - (o1_0 + 1)) [] ⟨o1_0 + 1, ⟨by omega, rfl⟩, rfl, h⟩ (by omega)
  ·rw [countN (show ¬ ((o1_0 : Int) < (x0.length : Int)) from c2), F93_l1] at h
   refine ww ?_
   obtain rfl := Option.some.inj h
   exact eM [] ⟨_, rfl, rfl⟩
 ·rintro _ ⟨po1, rfl, rfl⟩
  clear ho
  dsimp only at h
  refine ww ?_
  refine condSh h (fun c8 h => ?_) (fun c8 h => ?_)
  ·refine ww ?_
   obtain rfl := Option.some.inj h
   exact eF []
  ·refine ww ?_
   obtain rfl := Option.some.inj h
   exact eF []

/- orchestrator/value.Compare -/
def F67 (rc49 : TValue → TValue → Option (Int)) (x0 : TValue) (x1 : TValue) : Option (Int) := (F91 x0.Kind x1.Kind).bind fun t1 => (F91 x0.N x1.N).bind fun t2 => (F73 x0.S x1.S).bind fun t3 => (F92 rc49 x0.List_ x1.List_).bind fun t4 => (F93 rc49 x0.Fields x1.Fields).bind fun t5 => (F90 ((lit [t1, t2, t3, t4, t5]))).bind fun t6 => some t6
def a67 : AFn := ⟨32, [(.tmp 4)],
 (.seq (.reg [sq 2 (.box (.t 0)),
sq 3 (.box (.t 1)),
sq 4 (.mv (kI 0))])
 (.seq (.regd [sq 5 (.fieldA 0 (.t 2)),
sd 6 (.load none (.t 5)) [0],
sq 7 (.fieldA 0 (.t 3)),
sd 8 (.load none (.t 7)) [2],
⟨(some 9), none, .call 91 [(.t 6), (.t 8)], [0, 1, 2, 3], (.new [0, 1, 2, 3])⟩,
sq 10 (.fieldA 1 (.t 2)),
sd 11 (.load none (.t 10)) [5],
sq 12 (.fieldA 1 (.t 3)),
sd 13 (.load none (.t 12)) [7],
⟨(some 14), none, .call 91 [(.t 11), (.t 13)], [0, 1, 2, 3, 4, 5, 6, 7, 8], (.new [0, 1, 2, 3, 4, 5, 6, 7, 8])⟩,
sq 15 (.fieldA 2 (.t 2)),
sd 16 (.load none (.t 15)) [10],
sq 17 (.fieldA 2 (.t 3)),
sd 18 (.load none (.t 17)) [12],
⟨(some 19), none, .call 73 [(.t 16), (.t 18)], [0, 1, 2, 3, 4, 5, 6, 7, 8, 9, 10, 11, 12, 13], (.new [0, 1, 2, 3, 4, 5, 6, 7, 8, 9, 10, 11, 12, 13])⟩,
sq 20 (.fieldA 3 (.t 2)),
sd 21 (.load none (.t 20)) [15],
sq 22 (.fieldA 3 (.t 3)),
sd 23 (.load none (.t 22)) [17],
⟨(some 24), none, .call 92 [(.t 21), (.t 23), (.f 67)], [0, 1, 2, 3, 4, 5, 6, 7, 8, 9, 10, 11, 12, 13, 14, 15, 16, 17, 18], (.new [0, 1, 2, 3, 4, 5, 6, 7, 8, 9, 10, 11, 12, 13, 14, 15, 16, 17, 18])⟩,
sq 25 (.fieldA 4 (.t 2)),
sd 26 (.load none (.t 25)) [20],
sq 27 (.fieldA 4 (.t 3)),
sd 28 (.load none (.t 27)) [22],
⟨(some 29), none, .call 93 [(.t 26), (.t 28), (.f 94)], [0, 1, 2, 3, 4, 5, 6, 7, 8, 9, 10, 11, 12, 13, 14, 15, 16, 17, 18, 19, 20, 21, 22, 23], (.lone [])⟩,
⟨(some 30), none, .bslice 1 [(.t 9), (.t 14), (.t 19), (.t 24), (.t 29)], [0, 1, 2, 3, 4, 5, 6, 7, 8, 9, 10, 11, 12, 13, 14, 15, 16, 17, 18, 19, 20, 21, 22, 23, 24], (.lone [])⟩,
⟨(some 31), none, .call 90 [(.t 30)], [0, 1, 2, 3, 4, 5, 6, 7, 8, 9, 10, 11, 12, 13, 14, 15, 16, 17, 18, 19, 20, 21, 22, 23, 24, 25], (.lone [])⟩,
sd 4 (.mv (.t 31)) [0, 1, 2, 3, 4, 5, 6, 7, 8, 9, 10, 11, 12, 13, 14, 15, 16, 17, 18, 19, 20, 21, 22, 23, 24, 25, 26]])
 .ret))⟩
theorem a67_ok : afn Try.prog 67 = some a67.er := by kernel_rfl
theorem F67_ok {rc49 : TValue → TValue → Option (Int)} (ih49 : ∀ {x0 : TValue} {x1 : TValue} {r : Int} (h : rc49 x0 x1 = some r), CallD Try.prog 67 [.agg [.d (.v (.int .i64 x0.Kind)), .d (.v (.int .i64 x0.N)), .d (.v (.string x0.S)), .d (.sl (x0.List_.map eTValue)), .d (.sl (x0.Fields.map eTField))], .agg [.d (.v (.int .i64 x1.Kind)), .d (.v (.int .i64 x1.N)), .d (.v (.string x1.S)), .d (.sl (x1.List_.map eTValue)), .d (.sl (x1.Fields.map eTField))]] [] (tupV [.c (.d (.v (.int .i64 r)))]) [])  {x0 : TValue} {x1 : TValue} {r : Int} (h : F67 rc49 x0 x1 = some r) : CallD Try.prog 67 [.agg [.d (.v (.int .i64 x0.Kind)), .d (.v (.int .i64 x0.N)), .d (.v (.string x0.S)), .d (.sl (x0.List_.map eTValue)), .d (.sl (x0.Fields.map eTField))], .agg [.d (.v (.int .i64 x1.Kind)), .d (.v (.int .i64 x1.N)), .d (.v (.string x1.S)), .d (.sl (x1.List_.map eTValue)), .d (.sl (x1.Fields.map eTField))]] [] (tupV [.c (.d (.v (.int .i64 r)))]) [] := by
 refine callS a67_ok (by simp [a67]) ?_
 rw [F67] at h
 simp only [a67, VW.down, Nat.reduceEqDiff, reduceCtorEq, Nat.reduceAdd, Nat.reduceLeDiff, Nat.reduceLT, Nat.reduceBEq, Nat.reduceSub, EE.down]
 obtain ⟨t1, ht1, h⟩ := bi h
 refine cN [] (F91_ok ht1) trivial ?_
 refine ww ?_
 obtain ⟨t2, ht2, h⟩ := bi h
 refine cN [] (F91_ok ht2) trivial ?_
 refine ww ?_
 obtain ⟨t3, ht3, h⟩ := bi h
 refine cN [] (F73_ok ht3) trivial ?_
 refine ww ?_
 obtain ⟨t4, ht4, h⟩ := bi h
 refine cN [] (F92_ok ih49 ht4) trivial ?_
 refine ww ?_
 obtain ⟨t5, ht5, h⟩ := bi h
 refine cN [] (F93_ok ih49 ht5) trivial ?_
 refine ww ?_
 refine t_bslice (enc := eI) (ys := (lit [t1, t2, t3, t4, t5])) rfl rfl (by simp [A1.cells]) (by first | rfl | (simp only [List.drop_zero, take_mapL]; rfl) | (simp only [lit, List.map_cons, List.map_nil, List.drop_zero, take_mapL, EE.down]; done) | (simp only [lit, List.map_cons, List.map_nil, List.drop_zero, take_mapL, EE.down]; rfl)) ?_
 refine ww ?_
 obtain ⟨t6, ht6, h⟩ := bi h
 refine callX_bor (F90_ok ht6) (by simp only [borAs, bors, hp, List.getElem?_cons_zero, List.getElem?_cons_succ, Option.join_some, List.drop_zero, bor_full', true_and, Nat.zero_add, List.length_map, Nat.le_refl, nrm, List.length_cons, List.length_nil, Nat.reduceAdd, Nat.reduceLeDiff, List.take_succ_cons, List.take_zero, List.take_nil, List.map_cons, List.map_nil, List.length_set, EE.down]) rfl ?_
 refine ww ?_
 obtain rfl := Option.some.inj h
 exact eF []
def F67k : Nat → TValue → TValue → Option (Int)
  | 0 => fun _ _ => none
  | k + 1 => F67 (F67k k)
theorem F67k_ok (k : Nat) {x0 : TValue} {x1 : TValue} {r : Int} (h : F67k k x0 x1 = some r) : CallD Try.prog 67 [.agg [.d (.v (.int .i64 x0.Kind)), .d (.v (.int .i64 x0.N)), .d (.v (.string x0.S)), .d (.sl (x0.List_.map eTValue)), .d (.sl (x0.Fields.map eTField))], .agg [.d (.v (.int .i64 x1.Kind)), .d (.v (.int .i64 x1.N)), .d (.v (.string x1.S)), .d (.sl (x1.List_.map eTValue)), .d (.sl (x1.Fields.map eTField))]] [] (tupV [.c (.d (.v (.int .i64 r)))]) [] := by
  induction k generalizing x0 x1 r with
  | zero => cases (show (none : Option (Int)) = some _ from h)
  | succ k ih => exact F67_ok (fun h => ih h) h

/- orchestrator/value.Equal -/
def F35 (x0 : TValue) (x1 : TValue) : Option (Bool) := (F67k 1099511627776 x0 x1).bind fun t1 => some (decide (t1 = 0))
def a35 : AFn := ⟨9, [(.tmp 4)],
 (.seq (.reg [sq 2 (.box (.t 0)),
sq 3 (.box (.t 1)),
sq 4 (.mv (kB false))])
 (.seq (.reg [sq 5 (.load (some 5) (.t 2)),
sq 6 (.load (some 5) (.t 3)),
sq 7 (.call 67 [(.t 5), (.t 6)]),
sq 8 (.bin .eql (.t 7) (kI 0)),
sq 4 (.mv (.t 8))])
 .ret))⟩
theorem a35_ok : afn Try.prog 35 = some a35.er := by kernel_rfl
theorem F35_ok {x0 : TValue} {x1 : TValue} {r : Bool} (h : F35 x0 x1 = some r) : CallD Try.prog 35 [.agg [.d (.v (.int .i64 x0.Kind)), .d (.v (.int .i64 x0.N)), .d (.v (.string x0.S)), .d (.sl (x0.List_.map eTValue)), .d (.sl (x0.Fields.map eTField))], .agg [.d (.v (.int .i64 x1.Kind)), .d (.v (.int .i64 x1.N)), .d (.v (.string x1.S)), .d (.sl (x1.List_.map eTValue)), .d (.sl (x1.Fields.map eTField))]] [] (tupV [.c (.d (.v (.bool r)))]) [] := by
 refine callS a35_ok (by simp [a35]) ?_
 rw [F35] at h
 simp only [a35, VW.down, Nat.reduceEqDiff, reduceCtorEq, Nat.reduceAdd, Nat.reduceLeDiff, Nat.reduceLT, Nat.reduceBEq, Nat.reduceSub, EE.down]
 obtain ⟨t1, ht1, h⟩ := bi h
 refine cN [] (F67k_ok 1099511627776 ht1) trivial ?_
 refine ww ?_
 obtain rfl := Option.some.inj h
 exact eF []

/- orchestrator/meta.parts -/
def F37 (x0 : Meta) : Option (Unit) := some (())
def a37 : AFn := ⟨10, [(.cell 2 (some 3))],
 (.seq (.reg [sq 1 (.box (.t 0)),
sq 2 (.zbox [.d (.v (.string ⟨#[]⟩)), .d (.v (.string ⟨#[]⟩)), .d (.v (.string ⟨#[]⟩))])])
 (.seq (.reg [sq 3 (.fieldA 0 (.t 1)),
sq 4 (.load none (.t 3)),
sq 5 (.fieldA 1 (.t 1)),
sq 6 (.load none (.t 5)),
sq 7 (.fieldA 2 (.t 1)),
sq 8 (.load none (.t 7)),
sq 9 (.build [.d (.v (.string ⟨#[]⟩)), .d (.v (.string ⟨#[]⟩)), .d (.v (.string ⟨#[]⟩))] [(0, 1, (.t 4)), (1, 1, (.t 6)), (2, 1, (.t 8))]),
su (.store 3 (.t 2) (.t 9))])
 .ret))⟩
theorem a37_ok : afn Try.prog 37 = some a37.er := by kernel_rfl
theorem F37_ok {x0 : Meta} {r : Unit} (h : F37 x0 = some r) : CallD Try.prog 37 [.agg [.d (.v (.string x0.Kind)), .d (.v (.string x0.Namespace)), .d (.v (.string x0.Name)), .d (.v (.int .i64 x0.Uid)), .d (.v (.int .i64 x0.Version)), .d (.v (.int .i64 x0.Generation)), .d (.v (.int .i64 x0.Created)), .d (.v (.bool x0.Deleting)), .d (.v (.int .i64 x0.DeleteAt)), .d (.sl (x0.Labels.map eLabel)), .d (.sl (x0.Owners.map eOwner)), .d (.sl (x0.Finalizers.map eS)), .d (.sl (x0.Managers.map eManager))]] [] (tupV [.agg [.d (.v (.string x0.Kind)), .d (.v (.string x0.Namespace)), .d (.v (.string x0.Name))]]) [] := by
 refine callS a37_ok (by simp [a37]) ?_
 rw [F37] at h
 simp only [a37, VW.down, Nat.reduceEqDiff, reduceCtorEq, Nat.reduceAdd, Nat.reduceLeDiff, Nat.reduceLT, Nat.reduceBEq, Nat.reduceSub, EE.down]
 obtain rfl := Option.some.inj h
 exact eF []

/- slices.Equal[[]orchestrator/api.Label,orchestrator/api.Label] -/
def F38_l2 (x1 : (List Label)) : List Label → Nat → Option ((Bool) ⊕ (Unit))
  | [], o2_0 => some (Sum.inr (()))
  | xo2 :: xs, o2_0 => (rdI x1 ((o2_0 : Int))).bind fun y4 => (if ¬ (xo2.Key = y4.Key ∧ xo2.Value = y4.Value) then (some false).map Sum.inl else F38_l2 x1 xs (o2_0 + 1))
def F38 (x0 : (List Label)) (x1 : (List Label)) : Option (Bool) := (if ¬ ((x0.length : Int) = (x1.length : Int)) then some false else (((ck (0 ≤ x0.length ∧ x0.length ≤ 4294967290)).bind fun u6 => F38_l2 x1 x0 0 : Option ((Bool) ⊕ (Unit))).bind fun o2 => match o2 with | Sum.inl f => some f | Sum.inr po2 => some true))
def a38 : AFn := ⟨26, [(.tmp 4)],
 (.seq (.reg [sq 4 (.mv (kB false))])
 (.seq (.seq (.reg [sq 6 (.mv (.t 0)),
sq 7 (.len (.t 6)),
sq 8 (.mv (.t 1)),
sq 9 (.len (.t 8)),
sq 10 (.bin .neq (.t 7) (.t 9))])
 (.cond (.t 10)
 (.seq (.reg [sq 4 (.mv (kB false))])
 .ret)
 .skip))
 (.seq (.seq (.reg [sq 11 (.mv (.t 0)),
sq 12 (.len (.t 11)),
sq 13 (.mv (kI 0))])
 (.sem (.block 0 (.loop (.seq (.reg [sq 14 (.bin .lss (.t 13) (.t 12))])
 (.seq (.cond (.t 14)
 .skip
 (.exit 0))
 (.seq (.block 1 (.seq (.reg [sq 15 (.mv (.t 13)),
sq 5 (.mv (.t 15))])
 (.seq (.regd [sq 16 (.mv (.t 0)),
sq 17 (.mv (.t 5)),
sd 18 (.indexA 2 (.t 16) (.t 17)) [0, 1],
sd 19 (.load (some 2) (.t 18)) [0, 1, 2],
sq 20 (.mv (.t 1)),
sq 21 (.mv (.t 5)),
sd 22 (.indexA 2 (.t 20) (.t 21)) [4, 5],
sd 23 (.load (some 2) (.t 22)) [4, 5, 6],
⟨(some 24), none, .eqs true [(0, 2), (1, 2)] (.t 19) (.t 23), [0, 1, 2, 3, 4, 5, 6, 7], (.lone [])⟩])
 (.cond (.t 24)
 (.seq (.reg [sq 4 (.mv (kB false))])
 .ret)
 .skip))))
 (.reg [sq 25 (.bin .add (.t 13) (kI 1)),
sq 13 (.mv (.t 25))]))))))))
 (.seq (.reg [sq 4 (.mv (kB true))])
 .ret))))⟩
theorem a38_ok : afn Try.prog 38 = some a38.er := by kernel_rfl
theorem F38_ok {x0 : (List Label)} {x1 : (List Label)} {r : Bool} (h : F38 x0 x1 = some r) : CallD Try.prog 38 [.c (.d (.sl (x0.map eLabel))), .c (.d (.sl (x1.map eLabel)))] [] (tupV [.c (.d (.v (.bool r)))]) [] := by
 refine callS a38_ok (by simp [a38]) ?_
 rw [F38] at h
 simp only [a38, VW.down, Nat.reduceEqDiff, reduceCtorEq, Nat.reduceAdd, Nat.reduceLeDiff, Nat.reduceLT, Nat.reduceBEq, Nat.reduceSub, EE.down]
 refine condSh h (fun c1 h => ?_) (fun c1 h => ?_)
 ·refine ww ?_
  obtain rfl := Option.some.inj h
  exact eF []
 ·refine ww ?_
  obtain ⟨o2, ho, h⟩ := bi h
  refine cutS (fun s => ∃ po2, o2 = Sum.inr po2 ∧ s = ⟨[], []⟩) ?_ ?_
  ·have h0o2 := h
   have h := ho
   clear ho
   obtain ⟨_, hk, h⟩ := bi h
   have hk := ck_some hk
   refine ww ?_
   refine bL (fun j s => ∃ (o2_0 : Nat), (o2_0 ≤ x0.length ∧ j = x0.length - o2_0) ∧ s = ⟨[(0, .one (.c (.d (.sl (x0.map eLabel))))), (1, .one (.c (.d (.sl (x1.map eLabel))))), (12, .one (.c (.d (.v (.int .i64 ((x0.length : Int))))))), (13, .one (.c (.d (.v (.int .i64 ((o2_0 : Int)))))))], []⟩ ∧ F38_l2 x1 (x0.drop o2_0) o2_0 = some o2) (x0.length - 0) [] ⟨0, ⟨hk.1, rfl⟩, rfl, h⟩ ?_
   rintro _ _ ⟨o2_0, ⟨hi, rfl⟩, rfl, h⟩
   refine ww ?_
   refine condS (fun c3 => ?_) (fun c3 => ?_)
   ·obtain ⟨xo2, hxo2, hd⟩ := countY (show (o2_0 : Int) < (x0.length : Int) from c3)
    rw [hd, F38_l2] at h
    refine ww ?_
    refine t_idxF (enc := eLabel) (xs := x0) rfl rfl hxo2 rfl ?_
    refine ww ?_
    obtain ⟨y4, hy4, h⟩ := bi h
    refine t_idxF (enc := eLabel) (xs := x1) rfl rfl hy4 rfl ?_
    refine ww ?_
    refine condSh h (fun c5 h => ?_) (fun c5 h => ?_)
    ·refine ww ?_
     obtain ⟨fh0o2, hfh0o2, rfl⟩ := Option.map_eq_some_iff.1 h
     have h := hfh0o2.trans h0o2
     obtain rfl := Option.some.inj h
     exact eF []
    ·refine ww ?_
     rw [wrapN (by omega)]
     exact eL' (x0.length - (o2_0 + 1)) [] ⟨o2_0 + 1, ⟨by omega, rfl⟩, rfl, h⟩ (by omega)
   ·rw [countN (show ¬ ((o2_0 : Int) < (x0.length : Int)) from c3), F38_l2] at h
    refine ww ?_
    obtain rfl := Option.some.inj h
    exact eM [] ⟨_, rfl, rfl⟩
  ·rintro _ ⟨po2, rfl, rfl⟩
   clear ho
   dsimp only at h
   refine ww ?_
   obtain rfl := Option.some.inj h
   exact eF []

/- slices.Equal[[]orchestrator/api.Owner,orchestrator/api.Owner] -/
def F39_l2 (x1 : (List Owner)) : List Owner → Nat → Option ((Bool) ⊕ (Unit))
  | [], o2_0 => some (Sum.inr (()))
  | xo2 :: xs, o2_0 => (rdI x1 ((o2_0 : Int))).bind fun y4 => (if (nb ((decide (xo2.Kind = y4.Kind) && (decide (xo2.Name = y4.Name) && (decide (xo2.Uid = y4.Uid) && ((xo2.Controller == y4.Controller) && (xo2.Block == y4.Block))))))) = true then (some false).map Sum.inl else F39_l2 x1 xs (o2_0 + 1))
def F39 (x0 : (List Owner)) (x1 : (List Owner)) : Option (Bool) := (if ¬ ((x0.length : Int) = (x1.length : Int)) then some false else (((ck (0 ≤ x0.length ∧ x0.length ≤ 4294967290)).bind fun u6 => F39_l2 x1 x0 0 : Option ((Bool) ⊕ (Unit))).bind fun o2 => match o2 with | Sum.inl f => some f | Sum.inr po2 => some true))
def a39 : AFn := ⟨26, [(.tmp 4)],
 (.seq (.reg [sq 4 (.mv (kB false))])
 (.seq (.seq (.reg [sq 6 (.mv (.t 0)),
sq 7 (.len (.t 6)),
sq 8 (.mv (.t 1)),
sq 9 (.len (.t 8)),
sq 10 (.bin .neq (.t 7) (.t 9))])
 (.cond (.t 10)
 (.seq (.reg [sq 4 (.mv (kB false))])
 .ret)
 .skip))
 (.seq (.seq (.reg [sq 11 (.mv (.t 0)),
sq 12 (.len (.t 11)),
sq 13 (.mv (kI 0))])
 (.sem (.block 0 (.loop (.seq (.reg [sq 14 (.bin .lss (.t 13) (.t 12))])
 (.seq (.cond (.t 14)
 .skip
 (.exit 0))
 (.seq (.block 1 (.seq (.reg [sq 15 (.mv (.t 13)),
sq 5 (.mv (.t 15))])
 (.seq (.regd [sq 16 (.mv (.t 0)),
sq 17 (.mv (.t 5)),
sd 18 (.indexA 5 (.t 16) (.t 17)) [0, 1],
sd 19 (.load (some 5) (.t 18)) [0, 1, 2],
sq 20 (.mv (.t 1)),
sq 21 (.mv (.t 5)),
sd 22 (.indexA 5 (.t 20) (.t 21)) [4, 5],
sd 23 (.load (some 5) (.t 22)) [4, 5, 6],
⟨(some 24), none, .eqs true [(0, 2), (1, 2), (2, 0), (3, 1), (4, 1)] (.t 19) (.t 23), [0, 1, 2, 3, 4, 5, 6, 7], (.lone [])⟩])
 (.cond (.t 24)
 (.seq (.reg [sq 4 (.mv (kB false))])
 .ret)
 .skip))))
 (.reg [sq 25 (.bin .add (.t 13) (kI 1)),
sq 13 (.mv (.t 25))]))))))))
 (.seq (.reg [sq 4 (.mv (kB true))])
 .ret))))⟩
theorem a39_ok : afn Try.prog 39 = some a39.er := by kernel_rfl
theorem F39_ok {x0 : (List Owner)} {x1 : (List Owner)} {r : Bool} (h : F39 x0 x1 = some r) : CallD Try.prog 39 [.c (.d (.sl (x0.map eOwner))), .c (.d (.sl (x1.map eOwner)))] [] (tupV [.c (.d (.v (.bool r)))]) [] := by
 refine callS a39_ok (by simp [a39]) ?_
 rw [F39] at h
 simp only [a39, VW.down, Nat.reduceEqDiff, reduceCtorEq, Nat.reduceAdd, Nat.reduceLeDiff, Nat.reduceLT, Nat.reduceBEq, Nat.reduceSub, EE.down]
 refine condSh h (fun c1 h => ?_) (fun c1 h => ?_)
 ·refine ww ?_
  obtain rfl := Option.some.inj h
  exact eF []
 ·refine ww ?_
  obtain ⟨o2, ho, h⟩ := bi h
  refine cutS (fun s => ∃ po2, o2 = Sum.inr po2 ∧ s = ⟨[], []⟩) ?_ ?_
  ·have h0o2 := h
   have h := ho
   clear ho
   obtain ⟨_, hk, h⟩ := bi h
   have hk := ck_some hk
   refine ww ?_
   refine bL (fun j s => ∃ (o2_0 : Nat), (o2_0 ≤ x0.length ∧ j = x0.length - o2_0) ∧ s = ⟨[(0, .one (.c (.d (.sl (x0.map eOwner))))), (1, .one (.c (.d (.sl (x1.map eOwner))))), (12, .one (.c (.d (.v (.int .i64 ((x0.length : Int))))))), (13, .one (.c (.d (.v (.int .i64 ((o2_0 : Int)))))))], []⟩ ∧ F39_l2 x1 (x0.drop o2_0) o2_0 = some o2) (x0.length - 0) [] ⟨0, ⟨hk.1, rfl⟩, rfl, h⟩ ?_
   rintro _ _ ⟨o2_0, ⟨hi, rfl⟩, rfl, h⟩
   refine ww ?_
   refine condS (fun c3 => ?_) (fun c3 => ?_)
   ·obtain ⟨xo2, hxo2, hd⟩ := countY (show (o2_0 : Int) < (x0.length : Int) from c3)
    rw [hd, F39_l2] at h
    refine ww ?_
    refine t_idxF (enc := eOwner) (xs := x0) rfl rfl hxo2 rfl ?_
    refine ww ?_
    obtain ⟨y4, hy4, h⟩ := bi h
    refine t_idxF (enc := eOwner) (xs := x1) rfl rfl hy4 rfl ?_
    refine ww ?_
    refine condBh h (fun c5 h => ?_) (fun c5 h => ?_)
    ·refine ww ?_
     obtain ⟨fh0o2, hfh0o2, rfl⟩ := Option.map_eq_some_iff.1 h
     have h := hfh0o2.trans h0o2
     obtain rfl := Option.some.inj h
     exact eF []
    ·refine ww ?_
     rw [wrapN (by omega)]
     exact eL' (x0.length - (o2_0 + 1)) [] ⟨o2_0 + 1, ⟨by omega, rfl⟩, rfl, h⟩ (by omega)
   ·rw [countN (show ¬ ((o2_0 : Int) < (x0.length : Int)) from c3), F39_l2] at h
    refine ww ?_
    obtain rfl := Option.some.inj h
    exact eM [] ⟨_, rfl, rfl⟩
  ·rintro _ ⟨po2, rfl, rfl⟩
   clear ho
   dsimp only at h
   refine ww ?_
   obtain rfl := Option.some.inj h
   exact eF []

/- slices.Equal[[]string,string] -/
def F40_l2 (x1 : (List ByteArray)) : List ByteArray → Nat → Option ((Bool) ⊕ (Unit))
  | [], o2_0 => some (Sum.inr (()))
  | xo2 :: xs, o2_0 => (rdI x1 ((o2_0 : Int))).bind fun y4 => (if ¬ (xo2 = y4) then (some false).map Sum.inl else F40_l2 x1 xs (o2_0 + 1))
def F40 (x0 : (List ByteArray)) (x1 : (List ByteArray)) : Option (Bool) := (if ¬ ((x0.length : Int) = (x1.length : Int)) then some false else (((ck (0 ≤ x0.length ∧ x0.length ≤ 4294967290)).bind fun u6 => F40_l2 x1 x0 0 : Option ((Bool) ⊕ (Unit))).bind fun o2 => match o2 with | Sum.inl f => some f | Sum.inr po2 => some true))
def a40 : AFn := ⟨26, [(.tmp 4)],
 (.seq (.reg [sq 4 (.mv (kB false))])
 (.seq (.seq (.reg [sq 6 (.mv (.t 0)),
sq 7 (.len (.t 6)),
sq 8 (.mv (.t 1)),
sq 9 (.len (.t 8)),
sq 10 (.bin .neq (.t 7) (.t 9))])
 (.cond (.t 10)
 (.seq (.reg [sq 4 (.mv (kB false))])
 .ret)
 .skip))
 (.seq (.seq (.reg [sq 11 (.mv (.t 0)),
sq 12 (.len (.t 11)),
sq 13 (.mv (kI 0))])
 (.sem (.block 0 (.loop (.seq (.reg [sq 14 (.bin .lss (.t 13) (.t 12))])
 (.seq (.cond (.t 14)
 .skip
 (.exit 0))
 (.seq (.block 1 (.seq (.reg [sq 15 (.mv (.t 13)),
sq 5 (.mv (.t 15))])
 (.seq (.regd [sq 16 (.mv (.t 0)),
sq 17 (.mv (.t 5)),
sd 18 (.indexA 1 (.t 16) (.t 17)) [0, 1],
sd 19 (.load none (.t 18)) [0, 1, 2],
sq 20 (.mv (.t 1)),
sq 21 (.mv (.t 5)),
sd 22 (.indexA 1 (.t 20) (.t 21)) [4, 5],
sd 23 (.load none (.t 22)) [4, 5, 6],
sd 24 (.bin .neq (.t 19) (.t 23)) [0, 1, 2, 3, 4, 5, 6, 7]])
 (.cond (.t 24)
 (.seq (.reg [sq 4 (.mv (kB false))])
 .ret)
 .skip))))
 (.reg [sq 25 (.bin .add (.t 13) (kI 1)),
sq 13 (.mv (.t 25))]))))))))
 (.seq (.reg [sq 4 (.mv (kB true))])
 .ret))))⟩
theorem a40_ok : afn Try.prog 40 = some a40.er := by kernel_rfl
theorem F40_ok {x0 : (List ByteArray)} {x1 : (List ByteArray)} {r : Bool} (h : F40 x0 x1 = some r) : CallD Try.prog 40 [.c (.d (.sl (x0.map eS))), .c (.d (.sl (x1.map eS)))] [] (tupV [.c (.d (.v (.bool r)))]) [] := by
 refine callS a40_ok (by simp [a40]) ?_
 rw [F40] at h
 simp only [a40, VW.down, Nat.reduceEqDiff, reduceCtorEq, Nat.reduceAdd, Nat.reduceLeDiff, Nat.reduceLT, Nat.reduceBEq, Nat.reduceSub, EE.down]
 refine condSh h (fun c1 h => ?_) (fun c1 h => ?_)
 ·refine ww ?_
  obtain rfl := Option.some.inj h
  exact eF []
 ·refine ww ?_
  obtain ⟨o2, ho, h⟩ := bi h
  refine cutS (fun s => ∃ po2, o2 = Sum.inr po2 ∧ s = ⟨[], []⟩) ?_ ?_
  ·have h0o2 := h
   have h := ho
   clear ho
   obtain ⟨_, hk, h⟩ := bi h
   have hk := ck_some hk
   refine ww ?_
   refine bL (fun j s => ∃ (o2_0 : Nat), (o2_0 ≤ x0.length ∧ j = x0.length - o2_0) ∧ s = ⟨[(0, .one (.c (.d (.sl (x0.map eS))))), (1, .one (.c (.d (.sl (x1.map eS))))), (12, .one (.c (.d (.v (.int .i64 ((x0.length : Int))))))), (13, .one (.c (.d (.v (.int .i64 ((o2_0 : Int)))))))], []⟩ ∧ F40_l2 x1 (x0.drop o2_0) o2_0 = some o2) (x0.length - 0) [] ⟨0, ⟨hk.1, rfl⟩, rfl, h⟩ ?_
   rintro _ _ ⟨o2_0, ⟨hi, rfl⟩, rfl, h⟩
   refine ww ?_
   refine condS (fun c3 => ?_) (fun c3 => ?_)
   ·obtain ⟨xo2, hxo2, hd⟩ := countY (show (o2_0 : Int) < (x0.length : Int) from c3)
    rw [hd, F40_l2] at h
    refine ww ?_
    refine t_idxF (enc := eS) (xs := x0) rfl rfl hxo2 rfl ?_
    refine ww ?_
    obtain ⟨y4, hy4, h⟩ := bi h
    refine t_idxF (enc := eS) (xs := x1) rfl rfl hy4 rfl ?_
    refine ww ?_
    refine condSh h (fun c5 h => ?_) (fun c5 h => ?_)
    ·refine ww ?_
     obtain ⟨fh0o2, hfh0o2, rfl⟩ := Option.map_eq_some_iff.1 h
     have h := hfh0o2.trans h0o2
     obtain rfl := Option.some.inj h
     exact eF []
    ·refine ww ?_
     rw [wrapN (by omega)]
     exact eL' (x0.length - (o2_0 + 1)) [] ⟨o2_0 + 1, ⟨by omega, rfl⟩, rfl, h⟩ (by omega)
   ·rw [countN (show ¬ ((o2_0 : Int) < (x0.length : Int)) from c3), F40_l2] at h
    refine ww ?_
    obtain rfl := Option.some.inj h
    exact eM [] ⟨_, rfl, rfl⟩
  ·rintro _ ⟨po2, rfl, rfl⟩
   clear ho
   dsimp only at h
   refine ww ?_
   obtain rfl := Option.some.inj h
   exact eF []

/- orchestrator/meta.Equal$1 -/
def F41 (x0 : Manager) (x1 : Manager) : Option (Bool) := (((if x0.Name = x1.Name then (F40 x0.Fields x1.Fields).bind fun t3 => some t3 else some false)).bind fun o1 => some o1)
def a41 : AFn := ⟨17, [(.tmp 4)],
 (.seq (.reg [sq 2 (.box (.t 0)),
sq 3 (.box (.t 1)),
sq 4 (.mv (kB false))])
 (.seq (.sem (.reg [sq 5 (.fieldA 0 (.t 2)),
sq 6 (.load none (.t 5)),
sq 7 (.fieldA 0 (.t 3)),
sq 8 (.load none (.t 7)),
sq 9 (.bin .eql (.t 6) (.t 8)),
sq 10 (.mv (.t 9)),
⟨(some 11), (some (10, true)), .fieldA 1 (.t 2), [], (.new [])⟩,
⟨(some 12), (some (10, true)), .load none (.t 11), [], (.new [])⟩,
⟨(some 13), (some (10, true)), .fieldA 1 (.t 3), [], (.new [])⟩,
⟨(some 14), (some (10, true)), .load none (.t 13), [], (.new [])⟩,
⟨(some 15), (some (10, true)), .call 40 [(.t 12), (.t 14)], [], (.new [])⟩,
sq 16 (.pick (.t 10) (.t 15) (kB false)),
sq 4 (.mv (.t 16))]))
 .ret))⟩
theorem a41_ok : afn Try.prog 41 = some a41.er := by kernel_rfl
theorem F41_ok {x0 : Manager} {x1 : Manager} {r : Bool} (h : F41 x0 x1 = some r) : CallD Try.prog 41 [.agg [.d (.v (.string x0.Name)), .d (.sl (x0.Fields.map eS))], .agg [.d (.v (.string x1.Name)), .d (.sl (x1.Fields.map eS))]] [] (tupV [.c (.d (.v (.bool r)))]) [] := by
 refine callS a41_ok (by simp [a41]) ?_
 rw [F41] at h
 simp only [a41, VW.down, Nat.reduceEqDiff, reduceCtorEq, Nat.reduceAdd, Nat.reduceLeDiff, Nat.reduceLT, Nat.reduceBEq, Nat.reduceSub, EE.down]
 obtain ⟨o1, ho, h⟩ := bi h
 refine cutS (fun s => s = ⟨[(4, .one (.c (.d (.v (.bool o1)))))], []⟩) ?_ ?_
 ·have h := ho
  clear ho
  refine ww ?_
  refine guardSh h (fun g2 h => ?_) (fun g2 h => ?_)
  ·refine ww ?_
   obtain ⟨t3, ht3, h⟩ := bi h
   refine cN [] (F40_ok ht3) trivial ?_
   refine ww ?_
   obtain rfl := Option.some.inj h
   exact eM [] rfl
  ·refine ww ?_
   obtain rfl := Option.some.inj h
   exact eM [] rfl
 ·rintro _ rfl
  clear ho
  refine ww ?_
  obtain rfl := Option.some.inj h
  exact eF []

/- slices.EqualFunc[[]orchestrator/api.Manager,[]orchestrator/api.Manager,orchestrator/api.Manager,orchestrator/api.Manager] -/
def F42_l2 (x1 : (List Manager)) : List Manager → Nat → Option ((Bool) ⊕ (Unit))
  | [], o2_0 => some (Sum.inr (()))
  | xo2 :: xs, o2_0 => (rdI x1 ((o2_0 : Int))).bind fun y4 => (F41 xo2 y4).bind fun t5 => (if (nb t5) = true then (some false).map Sum.inl else F42_l2 x1 xs (o2_0 + 1))
def F42 (x0 : (List Manager)) (x1 : (List Manager)) : Option (Bool) := (if ¬ ((x0.length : Int) = (x1.length : Int)) then some false else (((ck (0 ≤ x0.length ∧ x0.length ≤ 4294967290)).bind fun u7 => F42_l2 x1 x0 0 : Option ((Bool) ⊕ (Unit))).bind fun o2 => match o2 with | Sum.inl f => some f | Sum.inr po2 => some true))
def a42 : AFn := ⟨32, [(.tmp 6)],
 (.seq (.reg [sq 6 (.mv (kB false))])
 (.seq (.seq (.reg [sq 10 (.mv (.t 0)),
sq 11 (.len (.t 10)),
sq 12 (.mv (.t 1)),
sq 13 (.len (.t 12)),
sq 14 (.bin .neq (.t 11) (.t 13))])
 (.cond (.t 14)
 (.seq (.reg [sq 6 (.mv (kB false))])
 .ret)
 .skip))
 (.seq (.seq (.reg [sq 15 (.mv (.t 0)),
sq 16 (.len (.t 15)),
sq 17 (.mv (kI 0))])
 (.sem (.block 0 (.loop (.seq (.reg [sq 18 (.bin .lss (.t 17) (.t 16))])
 (.seq (.cond (.t 18)
 .skip
 (.exit 0))
 (.seq (.block 1 (.seq (.reg [sq 19 (.mv (.t 17)),
sq 20 (.indexA 2 (.t 15) (.t 17)),
sq 21 (.load (some 2) (.t 20)),
sq 8 (.zbox [.d (.v (.string ⟨#[]⟩)), .d (.v (.slice none 0 0))]),
sq 7 (.mv (.t 19)),
su (.store 2 (.t 8) (.t 21))])
 (.seq (.reg [sq 22 (.mv (.t 1)),
sq 23 (.mv (.t 7)),
sq 24 (.indexA 2 (.t 22) (.t 23)),
sq 25 (.load (some 2) (.t 24)),
sq 9 (.zbox [.d (.v (.string ⟨#[]⟩)), .d (.v (.slice none 0 0))]),
su (.store 2 (.t 9) (.t 25))])
 (.seq (.reg [sq 26 (.mv (.t 2)),
sq 27 (.load (some 2) (.t 8)),
sq 28 (.load (some 2) (.t 9)),
sq 29 (.callv (.t 26) [(.t 27), (.t 28)]),
sq 30 (.not (.t 29))])
 (.cond (.t 30)
 (.seq (.reg [sq 6 (.mv (kB false))])
 .ret)
 .skip)))))
 (.reg [sq 31 (.bin .add (.t 17) (kI 1)),
sq 17 (.mv (.t 31))]))))))))
 (.seq (.reg [sq 6 (.mv (kB true))])
 .ret))))⟩
theorem a42_ok : afn Try.prog 42 = some a42.er := by kernel_rfl
theorem F42_ok {x0 : (List Manager)} {x1 : (List Manager)} {r : Bool} (h : F42 x0 x1 = some r) : CallD Try.prog 42 [.c (.d (.sl (x0.map eManager))), .c (.d (.sl (x1.map eManager))), .c (.fn 41 [])] [] (tupV [.c (.d (.v (.bool r)))]) [] := by
 refine callS a42_ok (by simp [a42]) ?_
 rw [F42] at h
 simp only [a42, VW.down, Nat.reduceEqDiff, reduceCtorEq, Nat.reduceAdd, Nat.reduceLeDiff, Nat.reduceLT, Nat.reduceBEq, Nat.reduceSub, EE.down]
 refine condSh h (fun c1 h => ?_) (fun c1 h => ?_)
 ·refine ww ?_
  obtain rfl := Option.some.inj h
  exact eF []
 ·refine ww ?_
  obtain ⟨o2, ho, h⟩ := bi h
  refine cutS (fun s => ∃ po2, o2 = Sum.inr po2 ∧ s = ⟨[], []⟩) ?_ ?_
  ·have h0o2 := h
   have h := ho
   clear ho
   obtain ⟨_, hk, h⟩ := bi h
   have hk := ck_some hk
   refine ww ?_
   refine bL (fun j s => ∃ (o2_0 : Nat), (o2_0 ≤ x0.length ∧ j = x0.length - o2_0) ∧ s = ⟨[(1, .one (.c (.d (.sl (x1.map eManager))))), (2, .one (.c (.fn 41 []))), (15, .one (.c (.d (.sl (x0.map eManager))))), (16, .one (.c (.d (.v (.int .i64 ((x0.length : Int))))))), (17, .one (.c (.d (.v (.int .i64 ((o2_0 : Int)))))))], []⟩ ∧ F42_l2 x1 (x0.drop o2_0) o2_0 = some o2) (x0.length - 0) [] ⟨0, ⟨hk.1, rfl⟩, rfl, h⟩ ?_
   rintro _ _ ⟨o2_0, ⟨hi, rfl⟩, rfl, h⟩
   refine ww ?_
   refine condS (fun c3 => ?_) (fun c3 => ?_)
   ·obtain ⟨xo2, hxo2, hd⟩ := countY (show (o2_0 : Int) < (x0.length : Int) from c3)
    rw [hd, F42_l2] at h
    refine ww ?_
    refine t_idxF (enc := eManager) (xs := x0) rfl rfl hxo2 rfl ?_
    refine ww ?_
    obtain ⟨y4, hy4, h⟩ := bi h
    refine t_idxF (enc := eManager) (xs := x1) rfl rfl hy4 rfl ?_
    refine ww ?_
    obtain ⟨t5, ht5, h⟩ := bi h
    refine cN [] (F41_ok ht5) trivial ?_
    refine ww ?_
    refine condBh h (fun c6 h => ?_) (fun c6 h => ?_)
    ·refine ww ?_
     obtain ⟨fh0o2, hfh0o2, rfl⟩ := Option.map_eq_some_iff.1 h
     have h := hfh0o2.trans h0o2
     obtain rfl := Option.some.inj h
     exact eF []
    ·refine ww ?_
     rw [wrapN (by omega)]
     exact eL' (x0.length - (o2_0 + 1)) [] ⟨o2_0 + 1, ⟨by omega, rfl⟩, rfl, h⟩ (by omega)
   ·rw [countN (show ¬ ((o2_0 : Int) < (x0.length : Int)) from c3), F42_l2] at h
    refine ww ?_
    obtain rfl := Option.some.inj h
    exact eM [] ⟨_, rfl, rfl⟩
  ·rintro _ ⟨po2, rfl, rfl⟩
   clear ho
   dsimp only at h
   refine ww ?_
   obtain rfl := Option.some.inj h
   exact eF []

/- orchestrator/meta.Equal -/
def F13 (x0 : Object) (x1 : Object) : Option (Bool) := (((F37 x0.Meta).bind fun t2 => (F37 x1.Meta).bind fun t3 => (if ¬ (x0.Meta.Kind = x1.Meta.Kind ∧ x0.Meta.Namespace = x1.Meta.Namespace ∧ x0.Meta.Name = x1.Meta.Name) then some true else (if ¬ (x0.Meta.Uid = x1.Meta.Uid) then some true else (if ¬ (x0.Meta.Version = x1.Meta.Version) then some true else (if ¬ (x0.Meta.Generation = x1.Meta.Generation) then some true else (if ¬ (x0.Meta.Created = x1.Meta.Created) then some true else (if (((x0.Meta.Deleting == x1.Meta.Deleting) != true)) = true then some true else some (decide (¬ (x0.Meta.DeleteAt = x1.Meta.DeleteAt)))))))))).bind fun o1 => (if o1 = true then some false else (((F38 x0.Meta.Labels x1.Meta.Labels).bind fun t12 => (if (nb t12) = true then some true else (F39 x0.Meta.Owners x1.Meta.Owners).bind fun t14 => (if (nb t14) = true then some true else (F40 x0.Meta.Finalizers x1.Meta.Finalizers).bind fun t16 => some (nb t16)))).bind fun o11 => (if o11 = true then some false else (((F42 x0.Meta.Managers x1.Meta.Managers).bind fun t19 => (if t19 = true then (F35 x0.Spec x1.Spec).bind fun t21 => (if t21 = true then (F35 x0.Status x1.Status).bind fun t23 => some t23 else some false) else some false)).bind fun o18 => some o18)))))
def a13 : AFn := ⟨101, [(.tmp 4)],
 (.seq (.reg [sq 2 (.box (.t 0)),
sq 3 (.box (.t 1)),
sq 4 (.mv (kB false))])
 (.seq (.regd [sq 8 (.fieldA 0 (.t 2)),
sd 9 (.load (some 13) (.t 8)) [0],
sq 10 (.fieldA 0 (.t 3)),
sd 11 (.load (some 13) (.t 10)) [2],
sq 5 (.zbox [.d (.v (.string ⟨#[]⟩)), .d (.v (.string ⟨#[]⟩)), .d (.v (.string ⟨#[]⟩)), .d (.v (.int .i64 0)), .d (.v (.int .i64 0)), .d (.v (.int .i64 0)), .d (.v (.int .i64 0)), .d (.v (.bool false)), .d (.v (.int .i64 0)), .d (.v (.slice none 0 0)), .d (.v (.slice none 0 0)), .d (.v (.slice none 0 0)), .d (.v (.slice none 0 0))]),
sq 6 (.zbox [.d (.v (.string ⟨#[]⟩)), .d (.v (.string ⟨#[]⟩)), .d (.v (.string ⟨#[]⟩)), .d (.v (.int .i64 0)), .d (.v (.int .i64 0)), .d (.v (.int .i64 0)), .d (.v (.int .i64 0)), .d (.v (.bool false)), .d (.v (.int .i64 0)), .d (.v (.slice none 0 0)), .d (.v (.slice none 0 0)), .d (.v (.slice none 0 0)), .d (.v (.slice none 0 0))]),
⟨none, none, .store 13 (.t 5) (.t 9), [0, 1, 4, 5], (.lone [3, 10])⟩,
⟨none, none, .store 13 (.t 6) (.t 11), [0, 1, 2, 3, 4, 5, 6], (.lone [])⟩])
 (.seq (.seq (.sem (.regd [sq 12 (.load (some 13) (.t 5)),
⟨(some 13), none, .call 37 [(.t 12)], [0], (.new [0])⟩,
sq 14 (.load (some 13) (.t 6)),
⟨(some 15), none, .call 37 [(.t 14)], [0, 1, 2], (.lone [])⟩,
⟨(some 16), none, .eqs true [(0, 2), (1, 2), (2, 2)] (.t 13) (.t 15), [0, 1, 2, 3], (.lone [])⟩,
sd 17 (.mv (.t 16)) [0, 1, 2, 3, 4],
⟨(some 18), (some (17, false)), .fieldA 3 (.t 5), [0, 1, 2, 3, 4, 5], (.new [])⟩,
⟨(some 19), (some (17, false)), .load none (.t 18), [0, 1, 2, 3, 4, 5, 6], (.new [])⟩,
⟨(some 20), (some (17, false)), .fieldA 3 (.t 6), [0, 1, 2, 3, 4, 5], (.new [])⟩,
⟨(some 21), (some (17, false)), .load none (.t 20), [0, 1, 2, 3, 4, 5, 8], (.new [])⟩,
⟨(some 22), (some (17, false)), .bin .neq (.t 19) (.t 21), [0, 1, 2, 3, 4, 5, 6, 7, 8, 9], (.new [])⟩,
⟨(some 23), none, .pick (.t 17) (kB true) (.t 22), [0, 1, 2, 3, 4, 5, 6, 7, 8, 9, 10], (.lone [])⟩,
sd 24 (.mv (.t 23)) [0, 1, 2, 3, 4, 5, 6, 7, 8, 9, 10, 11],
⟨(some 25), (some (24, false)), .fieldA 4 (.t 5), [0, 1, 2, 3, 4, 5, 6, 7, 8, 9, 10, 11, 12], (.new [])⟩,
⟨(some 26), (some (24, false)), .load none (.t 25), [0, 1, 2, 3, 4, 5, 6, 7, 8, 9, 10, 11, 12, 13], (.new [])⟩,
⟨(some 27), (some (24, false)), .fieldA 4 (.t 6), [0, 1, 2, 3, 4, 5, 6, 7, 8, 9, 10, 11, 12], (.new [])⟩,
⟨(some 28), (some (24, false)), .load none (.t 27), [0, 1, 2, 3, 4, 5, 6, 7, 8, 9, 10, 11, 12, 15], (.new [])⟩,
⟨(some 29), (some (24, false)), .bin .neq (.t 26) (.t 28), [0, 1, 2, 3, 4, 5, 6, 7, 8, 9, 10, 11, 12, 13, 14, 15, 16], (.new [])⟩,
⟨(some 30), none, .pick (.t 24) (kB true) (.t 29), [0, 1, 2, 3, 4, 5, 6, 7, 8, 9, 10, 11, 12, 13, 14, 15, 16, 17], (.lone [])⟩,
sd 31 (.mv (.t 30)) [0, 1, 2, 3, 4, 5, 6, 7, 8, 9, 10, 11, 12, 13, 14, 15, 16, 17, 18],
⟨(some 32), (some (31, false)), .fieldA 5 (.t 5), [0, 1, 2, 3, 4, 5, 6, 7, 8, 9, 10, 11, 12, 13, 14, 15, 16, 17, 18, 19], (.new [])⟩,
⟨(some 33), (some (31, false)), .load none (.t 32), [0, 1, 2, 3, 4, 5, 6, 7, 8, 9, 10, 11, 12, 13, 14, 15, 16, 17, 18, 19, 20], (.new [])⟩,
⟨(some 34), (some (31, false)), .fieldA 5 (.t 6), [0, 1, 2, 3, 4, 5, 6, 7, 8, 9, 10, 11, 12, 13, 14, 15, 16, 17, 18, 19], (.new [])⟩,
⟨(some 35), (some (31, false)), .load none (.t 34), [0, 1, 2, 3, 4, 5, 6, 7, 8, 9, 10, 11, 12, 13, 14, 15, 16, 17, 18, 19, 22], (.new [])⟩,
⟨(some 36), (some (31, false)), .bin .neq (.t 33) (.t 35), [0, 1, 2, 3, 4, 5, 6, 7, 8, 9, 10, 11, 12, 13, 14, 15, 16, 17, 18, 19, 20, 21, 22, 23], (.new [])⟩,
⟨(some 37), none, .pick (.t 31) (kB true) (.t 36), [0, 1, 2, 3, 4, 5, 6, 7, 8, 9, 10, 11, 12, 13, 14, 15, 16, 17, 18, 19, 20, 21, 22, 23, 24], (.lone [])⟩,
sd 38 (.mv (.t 37)) [0, 1, 2, 3, 4, 5, 6, 7, 8, 9, 10, 11, 12, 13, 14, 15, 16, 17, 18, 19, 20, 21, 22, 23, 24, 25],
⟨(some 39), (some (38, false)), .fieldA 6 (.t 5), [0, 1, 2, 3, 4, 5, 6, 7, 8, 9, 10, 11, 12, 13, 14, 15, 16, 17, 18, 19, 20, 21, 22, 23, 24, 25, 26], (.new [])⟩,
⟨(some 40), (some (38, false)), .load none (.t 39), [0, 1, 2, 3, 4, 5, 6, 7, 8, 9, 10, 11, 12, 13, 14, 15, 16, 17, 18, 19, 20, 21, 22, 23, 24, 25, 26, 27], (.new [])⟩,
⟨(some 41), (some (38, false)), .fieldA 6 (.t 6), [0, 1, 2, 3, 4, 5, 6, 7, 8, 9, 10, 11, 12, 13, 14, 15, 16, 17, 18, 19, 20, 21, 22, 23, 24, 25, 26], (.new [])⟩,
⟨(some 42), (some (38, false)), .load none (.t 41), [0, 1, 2, 3, 4, 5, 6, 7, 8, 9, 10, 11, 12, 13, 14, 15, 16, 17, 18, 19, 20, 21, 22, 23, 24, 25, 26, 29], (.new [])⟩,
⟨(some 43), (some (38, false)), .bin .neq (.t 40) (.t 42), [0, 1, 2, 3, 4, 5, 6, 7, 8, 9, 10, 11, 12, 13, 14, 15, 16, 17, 18, 19, 20, 21, 22, 23, 24, 25, 26, 27, 28, 29, 30], (.new [])⟩,
⟨(some 44), none, .pick (.t 38) (kB true) (.t 43), [0, 1, 2, 3, 4, 5, 6, 7, 8, 9, 10, 11, 12, 13, 14, 15, 16, 17, 18, 19, 20, 21, 22, 23, 24, 25, 26, 27, 28, 29, 30, 31], (.lone [])⟩,
sd 45 (.mv (.t 44)) [0, 1, 2, 3, 4, 5, 6, 7, 8, 9, 10, 11, 12, 13, 14, 15, 16, 17, 18, 19, 20, 21, 22, 23, 24, 25, 26, 27, 28, 29, 30, 31, 32],
⟨(some 46), (some (45, false)), .fieldA 7 (.t 5), [0, 1, 2, 3, 4, 5, 6, 7, 8, 9, 10, 11, 12, 13, 14, 15, 16, 17, 18, 19, 20, 21, 22, 23, 24, 25, 26, 27, 28, 29, 30, 31, 32, 33], (.new [])⟩,
⟨(some 47), (some (45, false)), .load none (.t 46), [0, 1, 2, 3, 4, 5, 6, 7, 8, 9, 10, 11, 12, 13, 14, 15, 16, 17, 18, 19, 20, 21, 22, 23, 24, 25, 26, 27, 28, 29, 30, 31, 32, 33, 34], (.new [])⟩,
⟨(some 48), (some (45, false)), .fieldA 7 (.t 6), [0, 1, 2, 3, 4, 5, 6, 7, 8, 9, 10, 11, 12, 13, 14, 15, 16, 17, 18, 19, 20, 21, 22, 23, 24, 25, 26, 27, 28, 29, 30, 31, 32, 33], (.new [])⟩,
⟨(some 49), (some (45, false)), .load none (.t 48), [0, 1, 2, 3, 4, 5, 6, 7, 8, 9, 10, 11, 12, 13, 14, 15, 16, 17, 18, 19, 20, 21, 22, 23, 24, 25, 26, 27, 28, 29, 30, 31, 32, 33, 36], (.new [])⟩,
⟨(some 50), (some (45, false)), .beq true (.t 47) (.t 49), [0, 1, 2, 3, 4, 5, 6, 7, 8, 9, 10, 11, 12, 13, 14, 15, 16, 17, 18, 19, 20, 21, 22, 23, 24, 25, 26, 27, 28, 29, 30, 31, 32, 33, 34, 35, 36, 37], (.new [])⟩,
⟨(some 51), none, .pick (.t 45) (kB true) (.t 50), [0, 1, 2, 3, 4, 5, 6, 7, 8, 9, 10, 11, 12, 13, 14, 15, 16, 17, 18, 19, 20, 21, 22, 23, 24, 25, 26, 27, 28, 29, 30, 31, 32, 33, 34, 35, 36, 37, 38], (.lone [])⟩,
sd 52 (.mv (.t 51)) [0, 1, 2, 3, 4, 5, 6, 7, 8, 9, 10, 11, 12, 13, 14, 15, 16, 17, 18, 19, 20, 21, 22, 23, 24, 25, 26, 27, 28, 29, 30, 31, 32, 33, 34, 35, 36, 37, 38, 39],
⟨(some 53), (some (52, false)), .fieldA 8 (.t 5), [0, 1, 2, 3, 4, 5, 6, 7, 8, 9, 10, 11, 12, 13, 14, 15, 16, 17, 18, 19, 20, 21, 22, 23, 24, 25, 26, 27, 28, 29, 30, 31, 32, 33, 34, 35, 36, 37, 38, 39, 40], (.new [])⟩,
⟨(some 54), (some (52, false)), .load none (.t 53), [0, 1, 2, 3, 4, 5, 6, 7, 8, 9, 10, 11, 12, 13, 14, 15, 16, 17, 18, 19, 20, 21, 22, 23, 24, 25, 26, 27, 28, 29, 30, 31, 32, 33, 34, 35, 36, 37, 38, 39, 40, 41], (.new [])⟩,
⟨(some 55), (some (52, false)), .fieldA 8 (.t 6), [0, 1, 2, 3, 4, 5, 6, 7, 8, 9, 10, 11, 12, 13, 14, 15, 16, 17, 18, 19, 20, 21, 22, 23, 24, 25, 26, 27, 28, 29, 30, 31, 32, 33, 34, 35, 36, 37, 38, 39, 40], (.new [])⟩,
⟨(some 56), (some (52, false)), .load none (.t 55), [0, 1, 2, 3, 4, 5, 6, 7, 8, 9, 10, 11, 12, 13, 14, 15, 16, 17, 18, 19, 20, 21, 22, 23, 24, 25, 26, 27, 28, 29, 30, 31, 32, 33, 34, 35, 36, 37, 38, 39, 40, 43], (.new [])⟩,
⟨(some 57), (some (52, false)), .bin .neq (.t 54) (.t 56), [0, 1, 2, 3, 4, 5, 6, 7, 8, 9, 10, 11, 12, 13, 14, 15, 16, 17, 18, 19, 20, 21, 22, 23, 24, 25, 26, 27, 28, 29, 30, 31, 32, 33, 34, 35, 36, 37, 38, 39, 40, 41, 42, 43, 44], (.new [])⟩,
⟨(some 58), none, .pick (.t 52) (kB true) (.t 57), [0, 1, 2, 3, 4, 5, 6, 7, 8, 9, 10, 11, 12, 13, 14, 15, 16, 17, 18, 19, 20, 21, 22, 23, 24, 25, 26, 27, 28, 29, 30, 31, 32, 33, 34, 35, 36, 37, 38, 39, 40, 41, 42, 43, 44, 45], (.lone [])⟩]))
 (.cond (.t 58)
 (.seq (.reg [sq 4 (.mv (kB false))])
 .ret)
 .skip))
 (.seq (.seq (.sem (.reg [sq 59 (.fieldA 9 (.t 5)),
sq 60 (.load none (.t 59)),
sq 61 (.fieldA 9 (.t 6)),
sq 62 (.load none (.t 61)),
sq 63 (.call 38 [(.t 60), (.t 62)]),
sq 64 (.not (.t 63)),
sq 65 (.mv (.t 64)),
⟨(some 66), (some (65, false)), .fieldA 10 (.t 5), [], (.new [])⟩,
⟨(some 67), (some (65, false)), .load none (.t 66), [], (.new [])⟩,
⟨(some 68), (some (65, false)), .fieldA 10 (.t 6), [], (.new [])⟩,
⟨(some 69), (some (65, false)), .load none (.t 68), [], (.new [])⟩,
⟨(some 70), (some (65, false)), .call 39 [(.t 67), (.t 69)], [], (.new [])⟩,
⟨(some 71), (some (65, false)), .not (.t 70), [], (.new [])⟩,
sq 72 (.pick (.t 65) (kB true) (.t 71)),
sq 73 (.mv (.t 72)),
⟨(some 74), (some (73, false)), .fieldA 11 (.t 5), [], (.new [])⟩,
⟨(some 75), (some (73, false)), .load none (.t 74), [], (.new [])⟩,
⟨(some 76), (some (73, false)), .fieldA 11 (.t 6), [], (.new [])⟩,
⟨(some 77), (some (73, false)), .load none (.t 76), [], (.new [])⟩,
⟨(some 78), (some (73, false)), .call 40 [(.t 75), (.t 77)], [], (.new [])⟩,
⟨(some 79), (some (73, false)), .not (.t 78), [], (.new [])⟩,
sq 80 (.pick (.t 73) (kB true) (.t 79))]))
 (.cond (.t 80)
 (.seq (.reg [sq 4 (.mv (kB false))])
 .ret)
 .skip))
 (.seq (.reg [⟨(some 7), none, .mv (.f 41), [], (.lone [])⟩])
 (.seq (.sem (.reg [sq 81 (.fieldA 12 (.t 5)),
sq 82 (.load none (.t 81)),
sq 83 (.fieldA 12 (.t 6)),
sq 84 (.load none (.t 83)),
sq 85 (.mv (.t 7)),
sq 86 (.call 42 [(.t 82), (.t 84), (.t 85)]),
sq 87 (.mv (.t 86)),
⟨(some 88), (some (87, true)), .fieldA 13 (.t 2), [], (.new [])⟩,
⟨(some 89), (some (87, true)), .load (some 5) (.t 88), [], (.new [])⟩,
⟨(some 90), (some (87, true)), .fieldA 13 (.t 3), [], (.new [])⟩,
⟨(some 91), (some (87, true)), .load (some 5) (.t 90), [], (.new [])⟩,
⟨(some 92), (some (87, true)), .call 35 [(.t 89), (.t 91)], [], (.new [])⟩,
sq 93 (.pick (.t 87) (.t 92) (kB false)),
sq 94 (.mv (.t 93)),
⟨(some 95), (some (94, true)), .fieldA 18 (.t 2), [], (.new [])⟩,
⟨(some 96), (some (94, true)), .load (some 5) (.t 95), [], (.new [])⟩,
⟨(some 97), (some (94, true)), .fieldA 18 (.t 3), [], (.new [])⟩,
⟨(some 98), (some (94, true)), .load (some 5) (.t 97), [], (.new [])⟩,
⟨(some 99), (some (94, true)), .call 35 [(.t 96), (.t 98)], [], (.new [])⟩,
sq 100 (.pick (.t 94) (.t 99) (kB false)),
sq 4 (.mv (.t 100))]))
 .ret))))))⟩
theorem a13_ok : afn Try.prog 13 = some a13.er := by kernel_rfl
theorem F13_ok {x0 : Object} {x1 : Object} {r : Bool} (h : F13 x0 x1 = some r) : CallD Try.prog 13 [.agg [.d (.v (.string x0.Meta.Kind)), .d (.v (.string x0.Meta.Namespace)), .d (.v (.string x0.Meta.Name)), .d (.v (.int .i64 x0.Meta.Uid)), .d (.v (.int .i64 x0.Meta.Version)), .d (.v (.int .i64 x0.Meta.Generation)), .d (.v (.int .i64 x0.Meta.Created)), .d (.v (.bool x0.Meta.Deleting)), .d (.v (.int .i64 x0.Meta.DeleteAt)), .d (.sl (x0.Meta.Labels.map eLabel)), .d (.sl (x0.Meta.Owners.map eOwner)), .d (.sl (x0.Meta.Finalizers.map eS)), .d (.sl (x0.Meta.Managers.map eManager)), .d (.v (.int .i64 x0.Spec.Kind)), .d (.v (.int .i64 x0.Spec.N)), .d (.v (.string x0.Spec.S)), .d (.sl (x0.Spec.List_.map eTValue)), .d (.sl (x0.Spec.Fields.map eTField)), .d (.v (.int .i64 x0.Status.Kind)), .d (.v (.int .i64 x0.Status.N)), .d (.v (.string x0.Status.S)), .d (.sl (x0.Status.List_.map eTValue)), .d (.sl (x0.Status.Fields.map eTField))], .agg [.d (.v (.string x1.Meta.Kind)), .d (.v (.string x1.Meta.Namespace)), .d (.v (.string x1.Meta.Name)), .d (.v (.int .i64 x1.Meta.Uid)), .d (.v (.int .i64 x1.Meta.Version)), .d (.v (.int .i64 x1.Meta.Generation)), .d (.v (.int .i64 x1.Meta.Created)), .d (.v (.bool x1.Meta.Deleting)), .d (.v (.int .i64 x1.Meta.DeleteAt)), .d (.sl (x1.Meta.Labels.map eLabel)), .d (.sl (x1.Meta.Owners.map eOwner)), .d (.sl (x1.Meta.Finalizers.map eS)), .d (.sl (x1.Meta.Managers.map eManager)), .d (.v (.int .i64 x1.Spec.Kind)), .d (.v (.int .i64 x1.Spec.N)), .d (.v (.string x1.Spec.S)), .d (.sl (x1.Spec.List_.map eTValue)), .d (.sl (x1.Spec.Fields.map eTField)), .d (.v (.int .i64 x1.Status.Kind)), .d (.v (.int .i64 x1.Status.N)), .d (.v (.string x1.Status.S)), .d (.sl (x1.Status.List_.map eTValue)), .d (.sl (x1.Status.Fields.map eTField))]] [] (tupV [.c (.d (.v (.bool r)))]) [] := by
 refine callS a13_ok (by simp [a13]) ?_
 rw [F13] at h
 simp only [a13, VW.down, Nat.reduceEqDiff, reduceCtorEq, Nat.reduceAdd, Nat.reduceLeDiff, Nat.reduceLT, Nat.reduceBEq, Nat.reduceSub, EE.down]
 refine kD_new (by simp [wrs, allW, hset]) ?_
 refine ww ?_
 refine kD_new (by simp [wrs, allW, hset]) ?_
 refine ww ?_
 obtain ⟨o1, ho, h⟩ := bi h
 refine cutS (fun s => s = ⟨[(2, .one (.c (.pt 0 0))), (3, .one (.c (.pt 1 0))), (5, .one (.c (.pt 2 0))), (6, .one (.c (.pt 3 0))), (58, .one (.c (.d (.v (.bool o1)))))], [some (.box [.d (.v (.string x0.Meta.Kind)), .d (.v (.string x0.Meta.Namespace)), .d (.v (.string x0.Meta.Name)), .d (.v (.int .i64 x0.Meta.Uid)), .d (.v (.int .i64 x0.Meta.Version)), .d (.v (.int .i64 x0.Meta.Generation)), .d (.v (.int .i64 x0.Meta.Created)), .d (.v (.bool x0.Meta.Deleting)), .d (.v (.int .i64 x0.Meta.DeleteAt)), .d (.sl (x0.Meta.Labels.map eLabel)), .d (.sl (x0.Meta.Owners.map eOwner)), .d (.sl (x0.Meta.Finalizers.map eS)), .d (.sl (x0.Meta.Managers.map eManager)), .d (.v (.int .i64 x0.Spec.Kind)), .d (.v (.int .i64 x0.Spec.N)), .d (.v (.string x0.Spec.S)), .d (.sl (x0.Spec.List_.map eTValue)), .d (.sl (x0.Spec.Fields.map eTField)), .d (.v (.int .i64 x0.Status.Kind)), .d (.v (.int .i64 x0.Status.N)), .d (.v (.string x0.Status.S)), .d (.sl (x0.Status.List_.map eTValue)), .d (.sl (x0.Status.Fields.map eTField))]), some (.box [.d (.v (.string x1.Meta.Kind)), .d (.v (.string x1.Meta.Namespace)), .d (.v (.string x1.Meta.Name)), .d (.v (.int .i64 x1.Meta.Uid)), .d (.v (.int .i64 x1.Meta.Version)), .d (.v (.int .i64 x1.Meta.Generation)), .d (.v (.int .i64 x1.Meta.Created)), .d (.v (.bool x1.Meta.Deleting)), .d (.v (.int .i64 x1.Meta.DeleteAt)), .d (.sl (x1.Meta.Labels.map eLabel)), .d (.sl (x1.Meta.Owners.map eOwner)), .d (.sl (x1.Meta.Finalizers.map eS)), .d (.sl (x1.Meta.Managers.map eManager)), .d (.v (.int .i64 x1.Spec.Kind)), .d (.v (.int .i64 x1.Spec.N)), .d (.v (.string x1.Spec.S)), .d (.sl (x1.Spec.List_.map eTValue)), .d (.sl (x1.Spec.Fields.map eTField)), .d (.v (.int .i64 x1.Status.Kind)), .d (.v (.int .i64 x1.Status.N)), .d (.v (.string x1.Status.S)), .d (.sl (x1.Status.List_.map eTValue)), .d (.sl (x1.Status.Fields.map eTField))]), some (.box [.d (.v (.string x0.Meta.Kind)), .d (.v (.string x0.Meta.Namespace)), .d (.v (.string x0.Meta.Name)), .d (.v (.int .i64 x0.Meta.Uid)), .d (.v (.int .i64 x0.Meta.Version)), .d (.v (.int .i64 x0.Meta.Generation)), .d (.v (.int .i64 x0.Meta.Created)), .d (.v (.bool x0.Meta.Deleting)), .d (.v (.int .i64 x0.Meta.DeleteAt)), .d (.sl (x0.Meta.Labels.map eLabel)), .d (.sl (x0.Meta.Owners.map eOwner)), .d (.sl (x0.Meta.Finalizers.map eS)), .d (.sl (x0.Meta.Managers.map eManager))]), some (.box [.d (.v (.string x1.Meta.Kind)), .d (.v (.string x1.Meta.Namespace)), .d (.v (.string x1.Meta.Name)), .d (.v (.int .i64 x1.Meta.Uid)), .d (.v (.int .i64 x1.Meta.Version)), .d (.v (.int .i64 x1.Meta.Generation)), .d (.v (.int .i64 x1.Meta.Created)), .d (.v (.bool x1.Meta.Deleting)), .d (.v (.int .i64 x1.Meta.DeleteAt)), .d (.sl (x1.Meta.Labels.map eLabel)), .d (.sl (x1.Meta.Owners.map eOwner)), .d (.sl (x1.Meta.Finalizers.map eS)), .d (.sl (x1.Meta.Managers.map eManager))])]⟩) ?_ ?_
 ·have h := ho
  clear ho
  refine ww ?_
  obtain ⟨t2, ht2, h⟩ := bi h
  refine cN [] (F37_ok ht2) trivial ?_
  refine ww ?_
  obtain ⟨t3, ht3, h⟩ := bi h
  refine cN [] (F37_ok ht3) trivial ?_
  refine ww ?_
  refine guardDh h (fun g4 h => ?_) (fun g4 h => ?_)
  ·refine ww ?_
   obtain rfl := Option.some.inj h
   exact eM [some 0, some 1, some 2, some 3] rfl
  ·refine ww ?_
   refine guardDh h (fun g5 h => ?_) (fun g5 h => ?_)
   ·refine ww ?_
    obtain rfl := Option.some.inj h
    exact eM [some 0, some 1, some 2, some 3] rfl
   ·refine ww ?_
    refine guardDh h (fun g6 h => ?_) (fun g6 h => ?_)
    ·refine ww ?_
     obtain rfl := Option.some.inj h
     exact eM [some 0, some 1, some 2, some 3] rfl
    ·refine ww ?_
     refine guardDh h (fun g7 h => ?_) (fun g7 h => ?_)
     ·refine ww ?_
      obtain rfl := Option.some.inj h
      exact eM [some 0, some 1, some 2, some 3] rfl
     ·refine ww ?_
      refine guardDh h (fun g8 h => ?_) (fun g8 h => ?_)
      ·refine ww ?_
       obtain rfl := Option.some.inj h
       exact eM [some 0, some 1, some 2, some 3] rfl
      ·refine ww ?_
       refine guardDBh h (fun g9 h => ?_) (fun g9 h => ?_)
       ·refine ww ?_
        obtain rfl := Option.some.inj h
        exact eM [some 0, some 1, some 2, some 3] rfl
       ·refine ww ?_
        obtain rfl := Option.some.inj h
        exact eM [some 0, some 1, some 2, some 3] rfl
 ·rintro _ rfl
  clear ho
  refine ww ?_
  refine condBh h (fun c10 h => ?_) (fun c10 h => ?_)
  ·refine ww ?_
   obtain rfl := Option.some.inj h
   exact eF []
  ·refine ww ?_
   obtain ⟨o11, ho, h⟩ := bi h
   refine cutS (fun s => s = ⟨[(2, .one (.c (.pt 0 0))), (3, .one (.c (.pt 1 0))), (5, .one (.c (.pt 2 0))), (6, .one (.c (.pt 3 0))), (80, .one (.c (.d (.v (.bool o11)))))], [some (.box [.d (.v (.string x0.Meta.Kind)), .d (.v (.string x0.Meta.Namespace)), .d (.v (.string x0.Meta.Name)), .d (.v (.int .i64 x0.Meta.Uid)), .d (.v (.int .i64 x0.Meta.Version)), .d (.v (.int .i64 x0.Meta.Generation)), .d (.v (.int .i64 x0.Meta.Created)), .d (.v (.bool x0.Meta.Deleting)), .d (.v (.int .i64 x0.Meta.DeleteAt)), .d (.sl (x0.Meta.Labels.map eLabel)), .d (.sl (x0.Meta.Owners.map eOwner)), .d (.sl (x0.Meta.Finalizers.map eS)), .d (.sl (x0.Meta.Managers.map eManager)), .d (.v (.int .i64 x0.Spec.Kind)), .d (.v (.int .i64 x0.Spec.N)), .d (.v (.string x0.Spec.S)), .d (.sl (x0.Spec.List_.map eTValue)), .d (.sl (x0.Spec.Fields.map eTField)), .d (.v (.int .i64 x0.Status.Kind)), .d (.v (.int .i64 x0.Status.N)), .d (.v (.string x0.Status.S)), .d (.sl (x0.Status.List_.map eTValue)), .d (.sl (x0.Status.Fields.map eTField))]), some (.box [.d (.v (.string x1.Meta.Kind)), .d (.v (.string x1.Meta.Namespace)), .d (.v (.string x1.Meta.Name)), .d (.v (.int .i64 x1.Meta.Uid)), .d (.v (.int .i64 x1.Meta.Version)), .d (.v (.int .i64 x1.Meta.Generation)), .d (.v (.int .i64 x1.Meta.Created)), .d (.v (.bool x1.Meta.Deleting)), .d (.v (.int .i64 x1.Meta.DeleteAt)), .d (.sl (x1.Meta.Labels.map eLabel)), .d (.sl (x1.Meta.Owners.map eOwner)), .d (.sl (x1.Meta.Finalizers.map eS)), .d (.sl (x1.Meta.Managers.map eManager)), .d (.v (.int .i64 x1.Spec.Kind)), .d (.v (.int .i64 x1.Spec.N)), .d (.v (.string x1.Spec.S)), .d (.sl (x1.Spec.List_.map eTValue)), .d (.sl (x1.Spec.Fields.map eTField)), .d (.v (.int .i64 x1.Status.Kind)), .d (.v (.int .i64 x1.Status.N)), .d (.v (.string x1.Status.S)), .d (.sl (x1.Status.List_.map eTValue)), .d (.sl (x1.Status.Fields.map eTField))]), some (.box [.d (.v (.string x0.Meta.Kind)), .d (.v (.string x0.Meta.Namespace)), .d (.v (.string x0.Meta.Name)), .d (.v (.int .i64 x0.Meta.Uid)), .d (.v (.int .i64 x0.Meta.Version)), .d (.v (.int .i64 x0.Meta.Generation)), .d (.v (.int .i64 x0.Meta.Created)), .d (.v (.bool x0.Meta.Deleting)), .d (.v (.int .i64 x0.Meta.DeleteAt)), .d (.sl (x0.Meta.Labels.map eLabel)), .d (.sl (x0.Meta.Owners.map eOwner)), .d (.sl (x0.Meta.Finalizers.map eS)), .d (.sl (x0.Meta.Managers.map eManager))]), some (.box [.d (.v (.string x1.Meta.Kind)), .d (.v (.string x1.Meta.Namespace)), .d (.v (.string x1.Meta.Name)), .d (.v (.int .i64 x1.Meta.Uid)), .d (.v (.int .i64 x1.Meta.Version)), .d (.v (.int .i64 x1.Meta.Generation)), .d (.v (.int .i64 x1.Meta.Created)), .d (.v (.bool x1.Meta.Deleting)), .d (.v (.int .i64 x1.Meta.DeleteAt)), .d (.sl (x1.Meta.Labels.map eLabel)), .d (.sl (x1.Meta.Owners.map eOwner)), .d (.sl (x1.Meta.Finalizers.map eS)), .d (.sl (x1.Meta.Managers.map eManager))])]⟩) ?_ ?_
   ·have h := ho
    clear ho
    refine ww ?_
    obtain ⟨t12, ht12, h⟩ := bi h
    refine cN [] (F38_ok ht12) trivial ?_
    refine ww ?_
    refine guardSBh h (fun g13 h => ?_) (fun g13 h => ?_)
    ·refine ww ?_
     obtain rfl := Option.some.inj h
     exact eM [some 0, some 1, some 2, some 3] rfl
    ·refine ww ?_
     obtain ⟨t14, ht14, h⟩ := bi h
     refine cN [] (F39_ok ht14) trivial ?_
     refine ww ?_
     refine guardSBh h (fun g15 h => ?_) (fun g15 h => ?_)
     ·refine ww ?_
      obtain rfl := Option.some.inj h
      exact eM [some 0, some 1, some 2, some 3] rfl
     ·refine ww ?_
      obtain ⟨t16, ht16, h⟩ := bi h
      refine cN [] (F40_ok ht16) trivial ?_
      refine ww ?_
      obtain rfl := Option.some.inj h
      exact eM [some 0, some 1, some 2, some 3] rfl
   ·rintro _ rfl
    clear ho
    refine ww ?_
    refine condBh h (fun c17 h => ?_) (fun c17 h => ?_)
    ·refine ww ?_
     obtain rfl := Option.some.inj h
     exact eF []
    ·refine ww ?_
     obtain ⟨o18, ho, h⟩ := bi h
     refine cutS (fun s => s = ⟨[(4, .one (.c (.d (.v (.bool o18)))))], []⟩) ?_ ?_
     ·have h := ho
      clear ho
      refine ww ?_
      obtain ⟨t19, ht19, h⟩ := bi h
      refine cN [] (F42_ok ht19) trivial ?_
      refine ww ?_
      refine guardSBh h (fun g20 h => ?_) (fun g20 h => ?_)
      ·refine ww ?_
       obtain ⟨t21, ht21, h⟩ := bi h
       refine cN [] (F35_ok ht21) trivial ?_
       refine ww ?_
       refine guardSBh h (fun g22 h => ?_) (fun g22 h => ?_)
       ·refine ww ?_
        obtain ⟨t23, ht23, h⟩ := bi h
        refine cN [] (F35_ok ht23) trivial ?_
        refine ww ?_
        obtain rfl := Option.some.inj h
        exact eM [] rfl
       ·refine ww ?_
        obtain rfl := Option.some.inj h
        exact eM [] rfl
      ·refine ww ?_
       obtain rfl := Option.some.inj h
       exact eM [] rfl
     ·rintro _ rfl
      clear ho
      refine ww ?_
      obtain rfl := Option.some.inj h
      exact eF []

/- orchestrator/store.Update -/
def F12 (x0 : TStore) (x1 : Object) : Option (Int × Int × (List Object) × (List Object) × (List Change) × ByteArray × ByteArray × ByteArray × Int × Int × Int × Int × Bool × Int × (List Label) × (List Owner) × (List ByteArray) × (List Manager) × Int × Int × ByteArray × ((List TValue)) × ((List TField)) × Int × Int × ByteArray × ((List TValue)) × ((List TField)) × Int) := (F31 x1).bind fun t1 => (if (nb t1) = true then (F32 x0).bind fun t3 => some ((x0.Rev, x0.Floor, t3.1, t3.2.1, t3.2.2, (⟨#[]⟩ : ByteArray), (⟨#[]⟩ : ByteArray), (⟨#[]⟩ : ByteArray), 0, 0, 0, 0, false, 0, [], [], [], [], 0, 0, (⟨#[]⟩ : ByteArray), [], [], 0, 0, (⟨#[]⟩ : ByteArray), [], [], 1)) else (F33 x1.Meta).bind fun t4 => (F21 x0 t4).bind fun t5 => (if (nb t5.2.2.2.2.2.2.2.2.2.2.2.2.2.2.2.2.2.2.2.2.2.2.2) = true then (F32 x0).bind fun t7 => some ((x0.Rev, x0.Floor, t7.1, t7.2.1, t7.2.2, (⟨#[]⟩ : ByteArray), (⟨#[]⟩ : ByteArray), (⟨#[]⟩ : ByteArray), 0, 0, 0, 0, false, 0, [], [], [], [], 0, 0, (⟨#[]⟩ : ByteArray), [], [], 0, 0, (⟨#[]⟩ : ByteArray), [], [], 7)) else (((if ¬ (x1.Meta.Version = 0) then (if ¬ (x1.Meta.Version = t5.2.2.2.2.1) then some true else (if ¬ (x1.Meta.Uid = 0) then some (decide (¬ (x1.Meta.Uid = t5.2.2.2.1))) else some false)) else (if ¬ (x1.Meta.Uid = 0) then some (decide (¬ (x1.Meta.Uid = t5.2.2.2.1))) else some false))).bind fun o8 => (if o8 = true then (F32 x0).bind fun t14 => some ((x0.Rev, x0.Floor, t14.1, t14.2.1, t14.2.2, (⟨#[]⟩ : ByteArray), (⟨#[]⟩ : ByteArray), (⟨#[]⟩ : ByteArray), 0, 0, 0, 0, false, 0, [], [], [], [], 0, 0, (⟨#[]⟩ : ByteArray), [], [], 0, 0, (⟨#[]⟩ : ByteArray), [], [], 9)) else (F34 x1).bind fun t15 => (((F35 ((⟨t15.2.2.2.2.1, t15.2.2.2.2.2.1, t15.2.2.2.2.2.2.1, t15.2.2.2.2.2.2.2.1, t15.2.2.2.2.2.2.2.2.1⟩ : TValue)) ((⟨t5.2.2.2.2.2.2.2.2.2.2.2.2.2.1, t5.2.2.2.2.2.2.2.2.2.2.2.2.2.2.1, t5.2.2.2.2.2.2.2.2.2.2.2.2.2.2.2.1, t5.2.2.2.2.2.2.2.2.2.2.2.2.2.2.2.2.1, t5.2.2.2.2.2.2.2.2.2.2.2.2.2.2.2.2.2.1⟩ : TValue))).bind fun t17 => (if (nb t17) = true then some ((IntKind.i64.wrap (t5.2.2.2.2.2.1 + 1))) else some t5.2.2.2.2.2.1)).bind fun o16 => (F13 ((⟨(⟨x1.Meta.Kind, x1.Meta.Namespace, x1.Meta.Name, t5.2.2.2.1, t5.2.2.2.2.1, o16, t5.2.2.2.2.2.2.1, x1.Meta.Deleting, x1.Meta.DeleteAt, t15.1, t15.2.1, t15.2.2.1, t15.2.2.2.1⟩ : Meta), (⟨t15.2.2.2.2.1, t15.2.2.2.2.2.1, t15.2.2.2.2.2.2.1, t15.2.2.2.2.2.2.2.1, t15.2.2.2.2.2.2.2.2.1⟩ : TValue), (⟨t15.2.2.2.2.2.2.2.2.2.1, t15.2.2.2.2.2.2.2.2.2.2.1, t15.2.2.2.2.2.2.2.2.2.2.2.1, t15.2.2.2.2.2.2.2.2.2.2.2.2.1, t15.2.2.2.2.2.2.2.2.2.2.2.2.2⟩ : TValue)⟩ : Object)) ((⟨(⟨t5.1, t5.2.1, t5.2.2.1, t5.2.2.2.1, t5.2.2.2.2.1, t5.2.2.2.2.2.1, t5.2.2.2.2.2.2.1, t5.2.2.2.2.2.2.2.1, t5.2.2.2.2.2.2.2.2.1, t5.2.2.2.2.2.2.2.2.2.1, t5.2.2.2.2.2.2.2.2.2.2.1, t5.2.2.2.2.2.2.2.2.2.2.2.1, t5.2.2.2.2.2.2.2.2.2.2.2.2.1⟩ : Meta), (⟨t5.2.2.2.2.2.2.2.2.2.2.2.2.2.1, t5.2.2.2.2.2.2.2.2.2.2.2.2.2.2.1, t5.2.2.2.2.2.2.2.2.2.2.2.2.2.2.2.1, t5.2.2.2.2.2.2.2.2.2.2.2.2.2.2.2.2.1, t5.2.2.2.2.2.2.2.2.2.2.2.2.2.2.2.2.2.1⟩ : TValue), (⟨t5.2.2.2.2.2.2.2.2.2.2.2.2.2.2.2.2.2.2.1, t5.2.2.2.2.2.2.2.2.2.2.2.2.2.2.2.2.2.2.2.1, t5.2.2.2.2.2.2.2.2.2.2.2.2.2.2.2.2.2.2.2.2.1, t5.2.2.2.2.2.2.2.2.2.2.2.2.2.2.2.2.2.2.2.2.2.1, t5.2.2.2.2.2.2.2.2.2.2.2.2.2.2.2.2.2.2.2.2.2.2.1⟩ : TValue)⟩ : Object))).bind fun t19 => (if t19 = true then (F32 x0).bind fun t21 => some ((x0.Rev, x0.Floor, t21.1, t21.2.1, t21.2.2, t5.1, t5.2.1, t5.2.2.1, t5.2.2.2.1, t5.2.2.2.2.1, t5.2.2.2.2.2.1, t5.2.2.2.2.2.2.1, t5.2.2.2.2.2.2.2.1, t5.2.2.2.2.2.2.2.2.1, t5.2.2.2.2.2.2.2.2.2.1, t5.2.2.2.2.2.2.2.2.2.2.1, t5.2.2.2.2.2.2.2.2.2.2.2.1, t5.2.2.2.2.2.2.2.2.2.2.2.2.1, t5.2.2.2.2.2.2.2.2.2.2.2.2.2.1, t5.2.2.2.2.2.2.2.2.2.2.2.2.2.2.1, t5.2.2.2.2.2.2.2.2.2.2.2.2.2.2.2.1, t5.2.2.2.2.2.2.2.2.2.2.2.2.2.2.2.2.1, t5.2.2.2.2.2.2.2.2.2.2.2.2.2.2.2.2.2.1, t5.2.2.2.2.2.2.2.2.2.2.2.2.2.2.2.2.2.2.1, t5.2.2.2.2.2.2.2.2.2.2.2.2.2.2.2.2.2.2.2.1, t5.2.2.2.2.2.2.2.2.2.2.2.2.2.2.2.2.2.2.2.2.1, t5.2.2.2.2.2.2.2.2.2.2.2.2.2.2.2.2.2.2.2.2.2.1, t5.2.2.2.2.2.2.2.2.2.2.2.2.2.2.2.2.2.2.2.2.2.2.1, 0)) else (if 1000000000000000 ≤ x0.Rev then (F32 x0).bind fun t23 => some ((x0.Rev, x0.Floor, t23.1, t23.2.1, t23.2.2, (⟨#[]⟩ : ByteArray), (⟨#[]⟩ : ByteArray), (⟨#[]⟩ : ByteArray), 0, 0, 0, 0, false, 0, [], [], [], [], 0, 0, (⟨#[]⟩ : ByteArray), [], [], 0, 0, (⟨#[]⟩ : ByteArray), [], [], 15)) else ((some (())).bind fun o24 => (F36 x0 1 ((⟨(⟨x1.Meta.Kind, x1.Meta.Namespace, x1.Meta.Name, t5.2.2.2.1, (IntKind.i64.wrap (x0.Rev + 1)), o16, t5.2.2.2.2.2.2.1, x1.Meta.Deleting, x1.Meta.DeleteAt, t15.1, t15.2.1, t15.2.2.1, t15.2.2.2.1⟩ : Meta), (⟨t15.2.2.2.2.1, t15.2.2.2.2.2.1, t15.2.2.2.2.2.2.1, t15.2.2.2.2.2.2.2.1, t15.2.2.2.2.2.2.2.2.1⟩ : TValue), (⟨t15.2.2.2.2.2.2.2.2.2.1, t15.2.2.2.2.2.2.2.2.2.2.1, t15.2.2.2.2.2.2.2.2.2.2.2.1, t15.2.2.2.2.2.2.2.2.2.2.2.2.1, t15.2.2.2.2.2.2.2.2.2.2.2.2.2⟩ : TValue)⟩ : Object))).bind fun t25 => some ((t25.1, t25.2.1, t25.2.2.1, t25.2.2.2.1, t25.2.2.2.2, x1.Meta.Kind, x1.Meta.Namespace, x1.Meta.Name, t5.2.2.2.1, (IntKind.i64.wrap (x0.Rev + 1)), o16, t5.2.2.2.2.2.2.1, x1.Meta.Deleting, x1.Meta.DeleteAt, t15.1, t15.2.1, t15.2.2.1, t15.2.2.2.1, t15.2.2.2.2.1, t15.2.2.2.2.2.1, t15.2.2.2.2.2.2.1, t15.2.2.2.2.2.2.2.1, t15.2.2.2.2.2.2.2.2.1, t15.2.2.2.2.2.2.2.2.2.1, t15.2.2.2.2.2.2.2.2.2.2.1, t15.2.2.2.2.2.2.2.2.2.2.2.1, t15.2.2.2.2.2.2.2.2.2.2.2.2.1, t15.2.2.2.2.2.2.2.2.2.2.2.2.2, 0))))))))))
def a12 : AFn := ⟨117, [(.cell 4 (some 6)), (.cell 5 (some 23)), (.tmp 6)],
 (.seq (.reg [sq 2 (.box (.t 0)),
sq 3 (.box (.t 1)),
sq 4 (.zbox [.d (.v (.int .i64 0)), .d (.v (.int .i64 0)), .d (.v (.int .i64 0)), .d (.v (.slice none 0 0)), .d (.v (.slice none 0 0)), .d (.v (.slice none 0 0))]),
sq 5 (.zbox [.d (.v (.string ⟨#[]⟩)), .d (.v (.string ⟨#[]⟩)), .d (.v (.string ⟨#[]⟩)), .d (.v (.int .i64 0)), .d (.v (.int .i64 0)), .d (.v (.int .i64 0)), .d (.v (.int .i64 0)), .d (.v (.bool false)), .d (.v (.int .i64 0)), .d (.v (.slice none 0 0)), .d (.v (.slice none 0 0)), .d (.v (.slice none 0 0)), .d (.v (.slice none 0 0)), .d (.v (.int .i64 0)), .d (.v (.int .i64 0)), .d (.v (.string ⟨#[]⟩)), .d (.v (.slice none 0 0)), .d (.v (.slice none 0 0)), .d (.v (.int .i64 0)), .d (.v (.int .i64 0)), .d (.v (.string ⟨#[]⟩)), .d (.v (.slice none 0 0)), .d (.v (.slice none 0 0))]),
sq 6 (.mv (kI 0))])
 (.seq (.seq (.reg [sq 10 (.load (some 23) (.t 3)),
sq 11 (.call 31 [(.t 10)]),
sq 12 (.not (.t 11))])
 (.cond (.t 12)
 (.seq (.reg [sq 13 (.load (some 6) (.t 2)),
sq 14 (.call 32 [(.t 13)]),
sq 15 (.build [.d (.v (.string ⟨#[]⟩)), .d (.v (.string ⟨#[]⟩)), .d (.v (.string ⟨#[]⟩)), .d (.v (.int .i64 0)), .d (.v (.int .i64 0)), .d (.v (.int .i64 0)), .d (.v (.int .i64 0)), .d (.v (.bool false)), .d (.v (.int .i64 0)), .d (.v (.slice none 0 0)), .d (.v (.slice none 0 0)), .d (.v (.slice none 0 0)), .d (.v (.slice none 0 0)), .d (.v (.int .i64 0)), .d (.v (.int .i64 0)), .d (.v (.string ⟨#[]⟩)), .d (.v (.slice none 0 0)), .d (.v (.slice none 0 0)), .d (.v (.int .i64 0)), .d (.v (.int .i64 0)), .d (.v (.string ⟨#[]⟩)), .d (.v (.slice none 0 0)), .d (.v (.slice none 0 0))] []),
su (.store 6 (.t 4) (.t 14)),
su (.store 23 (.t 5) (.t 15)),
sq 6 (.mv (kI 1))])
 .ret)
 .skip))
 (.seq (.regd [sq 17 (.load (some 6) (.t 2)),
sq 18 (.fieldA 0 (.t 3)),
sd 19 (.load (some 13) (.t 18)) [1],
⟨(some 20), none, .call 33 [(.t 19)], [1, 2], (.new [1, 2])⟩,
⟨(some 21), none, .call 21 [(.t 17), (.t 20)], [0, 1, 2, 3], (.new [0, 1, 2, 3])⟩,
sd 16 (.mv (.t 21)) [0, 1, 2, 3, 4],
sd 22 (.ext (.t 16) 0) [0, 1, 2, 3, 4, 5],
sd 23 (.ext (.t 16) 1) [0, 1, 2, 3, 4, 5],
sq 7 (.zbox [.d (.v (.string ⟨#[]⟩)), .d (.v (.string ⟨#[]⟩)), .d (.v (.string ⟨#[]⟩)), .d (.v (.int .i64 0)), .d (.v (.int .i64 0)), .d (.v (.int .i64 0)), .d (.v (.int .i64 0)), .d (.v (.bool false)), .d (.v (.int .i64 0)), .d (.v (.slice none 0 0)), .d (.v (.slice none 0 0)), .d (.v (.slice none 0 0)), .d (.v (.slice none 0 0)), .d (.v (.int .i64 0)), .d (.v (.int .i64 0)), .d (.v (.string ⟨#[]⟩)), .d (.v (.slice none 0 0)), .d (.v (.slice none 0 0)), .d (.v (.int .i64 0)), .d (.v (.int .i64 0)), .d (.v (.string ⟨#[]⟩)), .d (.v (.slice none 0 0)), .d (.v (.slice none 0 0))]),
⟨none, none, .store 23 (.t 7) (.t 22), [0, 1, 2, 3, 4, 5, 6, 8], (.lone [])⟩,
sd 8 (.mv (.t 23)) [0, 1, 2, 3, 4, 5, 6, 7, 8, 9]])
 (.seq (.block 0 (.seq (.reg [sq 25 (.mv (.t 8)),
sq 26 (.not (.t 25)),
sq 24 (.mv (.t 26))])
 (.cond (.t 24)
 (.seq (.reg [sq 27 (.load (some 6) (.t 2)),
sq 28 (.call 32 [(.t 27)]),
sq 29 (.build [.d (.v (.string ⟨#[]⟩)), .d (.v (.string ⟨#[]⟩)), .d (.v (.string ⟨#[]⟩)), .d (.v (.int .i64 0)), .d (.v (.int .i64 0)), .d (.v (.int .i64 0)), .d (.v (.int .i64 0)), .d (.v (.bool false)), .d (.v (.int .i64 0)), .d (.v (.slice none 0 0)), .d (.v (.slice none 0 0)), .d (.v (.slice none 0 0)), .d (.v (.slice none 0 0)), .d (.v (.int .i64 0)), .d (.v (.int .i64 0)), .d (.v (.string ⟨#[]⟩)), .d (.v (.slice none 0 0)), .d (.v (.slice none 0 0)), .d (.v (.int .i64 0)), .d (.v (.int .i64 0)), .d (.v (.string ⟨#[]⟩)), .d (.v (.slice none 0 0)), .d (.v (.slice none 0 0))] []),
su (.store 6 (.t 4) (.t 28)),
su (.store 23 (.t 5) (.t 29)),
sq 6 (.mv (kI 7))])
 .ret)
 (.seq (.sem (.reg [sq 31 (.fieldA 0 (.t 3)),
sq 32 (.fieldA 4 (.t 31)),
sq 33 (.load none (.t 32)),
sq 34 (.bin .neq (.t 33) (kI 0)),
sq 35 (.mv (.t 34)),
⟨(some 36), (some (35, true)), .fieldA 0 (.t 3), [], (.new [])⟩,
⟨(some 37), (some (35, true)), .fieldA 4 (.t 36), [], (.new [])⟩,
⟨(some 38), (some (35, true)), .load none (.t 37), [], (.new [])⟩,
⟨(some 39), (some (35, true)), .fieldA 0 (.t 7), [], (.new [])⟩,
⟨(some 40), (some (35, true)), .fieldA 4 (.t 39), [], (.new [])⟩,
⟨(some 41), (some (35, true)), .load none (.t 40), [], (.new [])⟩,
⟨(some 42), (some (35, true)), .bin .neq (.t 38) (.t 41), [], (.new [])⟩,
sq 43 (.pick (.t 35) (.t 42) (kB false)),
sq 44 (.mv (.t 43)),
⟨(some 45), (some (44, false)), .fieldA 0 (.t 3), [], (.new [])⟩,
⟨(some 46), (some (44, false)), .fieldA 3 (.t 45), [], (.new [])⟩,
⟨(some 47), (some (44, false)), .load none (.t 46), [], (.new [])⟩,
⟨(some 48), (some (44, false)), .bin .neq (.t 47) (kI 0), [], (.new [])⟩,
⟨(some 49), (some (44, false)), .mv (.t 48), [], (.new [])⟩,
⟨(some 50), (some (49, true)), .fieldA 0 (.t 3), [], (.new [])⟩,
⟨(some 51), (some (49, true)), .fieldA 3 (.t 50), [], (.new [])⟩,
⟨(some 52), (some (49, true)), .load none (.t 51), [], (.new [])⟩,
⟨(some 53), (some (49, true)), .fieldA 0 (.t 7), [], (.new [])⟩,
⟨(some 54), (some (49, true)), .fieldA 3 (.t 53), [], (.new [])⟩,
⟨(some 55), (some (49, true)), .load none (.t 54), [], (.new [])⟩,
⟨(some 56), (some (49, true)), .bin .neq (.t 52) (.t 55), [], (.new [])⟩,
⟨(some 57), (some (44, false)), .pick (.t 49) (.t 56) (kB false), [], (.new [])⟩,
sq 58 (.pick (.t 44) (kB true) (.t 57)),
sq 30 (.mv (.t 58))]))
 (.cond (.t 30)
 (.seq (.reg [sq 59 (.load (some 6) (.t 2)),
sq 60 (.call 32 [(.t 59)]),
sq 61 (.build [.d (.v (.string ⟨#[]⟩)), .d (.v (.string ⟨#[]⟩)), .d (.v (.string ⟨#[]⟩)), .d (.v (.int .i64 0)), .d (.v (.int .i64 0)), .d (.v (.int .i64 0)), .d (.v (.int .i64 0)), .d (.v (.bool false)), .d (.v (.int .i64 0)), .d (.v (.slice none 0 0)), .d (.v (.slice none 0 0)), .d (.v (.slice none 0 0)), .d (.v (.slice none 0 0)), .d (.v (.int .i64 0)), .d (.v (.int .i64 0)), .d (.v (.string ⟨#[]⟩)), .d (.v (.slice none 0 0)), .d (.v (.slice none 0 0)), .d (.v (.int .i64 0)), .d (.v (.int .i64 0)), .d (.v (.string ⟨#[]⟩)), .d (.v (.slice none 0 0)), .d (.v (.slice none 0 0))] []),
su (.store 6 (.t 4) (.t 60)),
su (.store 23 (.t 5) (.t 61)),
sq 6 (.mv (kI 9))])
 .ret)
 .skip)))))
 (.seq (.reg [sq 62 (.load (some 23) (.t 3)),
sq 63 (.call 34 [(.t 62)]),
sq 9 (.zbox [.d (.v (.string ⟨#[]⟩)), .d (.v (.string ⟨#[]⟩)), .d (.v (.string ⟨#[]⟩)), .d (.v (.int .i64 0)), .d (.v (.int .i64 0)), .d (.v (.int .i64 0)), .d (.v (.int .i64 0)), .d (.v (.bool false)), .d (.v (.int .i64 0)), .d (.v (.slice none 0 0)), .d (.v (.slice none 0 0)), .d (.v (.slice none 0 0)), .d (.v (.slice none 0 0)), .d (.v (.int .i64 0)), .d (.v (.int .i64 0)), .d (.v (.string ⟨#[]⟩)), .d (.v (.slice none 0 0)), .d (.v (.slice none 0 0)), .d (.v (.int .i64 0)), .d (.v (.int .i64 0)), .d (.v (.string ⟨#[]⟩)), .d (.v (.slice none 0 0)), .d (.v (.slice none 0 0))]),
su (.store 23 (.t 9) (.t 63))])
 (.seq (.regd [sq 64 (.fieldA 0 (.t 7)),
sd 65 (.fieldA 3 (.t 64)) [0],
sd 66 (.load none (.t 65)) [0, 1],
sq 67 (.fieldA 0 (.t 7)),
sd 68 (.fieldA 6 (.t 67)) [3],
sd 69 (.load none (.t 68)) [3, 4],
sq 70 (.fieldA 0 (.t 7)),
sd 71 (.fieldA 5 (.t 70)) [6],
sd 72 (.load none (.t 71)) [6, 7],
sq 73 (.fieldA 0 (.t 7)),
sd 74 (.fieldA 4 (.t 73)) [9],
sd 75 (.load none (.t 74)) [9, 10],
sd 76 (.fieldA 0 (.t 9)) [0, 1, 2],
sd 77 (.fieldA 3 (.t 76)) [0, 1, 2, 12],
⟨none, none, .store 1 (.t 77) (.t 66), [0, 1, 2, 12, 13], (.lone [7, 67, 68, 7, 70, 71, 7, 73, 74])⟩,
sd 78 (.fieldA 0 (.t 9)) [0, 1, 2, 3, 4, 5, 12, 13, 14],
sd 79 (.fieldA 6 (.t 78)) [0, 1, 2, 3, 4, 5, 12, 13, 14, 15],
⟨none, none, .store 1 (.t 79) (.t 69), [0, 1, 2, 3, 4, 5, 12, 13, 14, 15, 16], (.lone [7, 70, 71, 7, 73, 74])⟩,
sd 80 (.fieldA 0 (.t 9)) [0, 1, 2, 3, 4, 5, 6, 7, 8, 12, 13, 14, 15, 16, 17],
sd 81 (.fieldA 5 (.t 80)) [0, 1, 2, 3, 4, 5, 6, 7, 8, 12, 13, 14, 15, 16, 17, 18],
⟨none, none, .store 1 (.t 81) (.t 72), [0, 1, 2, 3, 4, 5, 6, 7, 8, 12, 13, 14, 15, 16, 17, 18, 19], (.lone [7, 73, 74])⟩,
sd 82 (.fieldA 0 (.t 9)) [0, 1, 2, 3, 4, 5, 6, 7, 8, 9, 10, 11, 12, 13, 14, 15, 16, 17, 18, 19, 20],
sd 83 (.fieldA 4 (.t 82)) [0, 1, 2, 3, 4, 5, 6, 7, 8, 9, 10, 11, 12, 13, 14, 15, 16, 17, 18, 19, 20, 21],
⟨none, none, .store 1 (.t 83) (.t 75), [0, 1, 2, 3, 4, 5, 6, 7, 8, 9, 10, 11, 12, 13, 14, 15, 16, 17, 18, 19, 20, 21, 22], (.lone [])⟩])
 (.seq (.sem (.seq (.reg [sq 84 (.fieldA 13 (.t 9)),
sq 85 (.load (some 5) (.t 84)),
sq 86 (.fieldA 13 (.t 7)),
sq 87 (.load (some 5) (.t 86)),
sq 88 (.call 35 [(.t 85), (.t 87)]),
sq 89 (.not (.t 88))])
 (.cond (.t 89)
 (.reg [sq 90 (.fieldA 0 (.t 9)),
sq 91 (.fieldA 5 (.t 90)),
sq 92 (.load none (.t 91)),
sq 93 (.bin .add (.t 92) (kI 1)),
sq 94 (.fieldA 0 (.t 9)),
sq 95 (.fieldA 5 (.t 94)),
⟨none, none, .store 1 (.t 95) (.t 93), [], (.lone [9, 90, 91, 9, 94])⟩])
 .skip)))
 (.seq (.seq (.reg [sq 96 (.load (some 23) (.t 9)),
sq 97 (.load (some 23) (.t 7)),
⟨(some 98), none, .call 13 [(.t 96), (.t 97)], [], (.lone [9, 7])⟩])
 (.cond (.t 98)
 (.seq (.regd [sq 99 (.load (some 6) (.t 2)),
⟨(some 100), none, .call 32 [(.t 99)], [0], (.new [0])⟩,
sq 101 (.load (some 23) (.t 7)),
⟨none, none, .store 6 (.t 4) (.t 100), [0, 1], (.lone [7])⟩,
⟨none, none, .store 23 (.t 5) (.t 101), [0, 1, 2, 3], (.lone [])⟩,
sd 6 (.mv (kI 0)) [0, 1, 2, 3, 4]])
 .ret)
 .skip))
 (.seq (.seq (.reg [sq 102 (.fieldA 0 (.t 2)),
sq 103 (.load none (.t 102)),
sq 104 (.bin .geq (.t 103) (kI 1000000000000000))])
 (.cond (.t 104)
 (.seq (.reg [sq 105 (.load (some 6) (.t 2)),
sq 106 (.call 32 [(.t 105)]),
sq 107 (.build [.d (.v (.string ⟨#[]⟩)), .d (.v (.string ⟨#[]⟩)), .d (.v (.string ⟨#[]⟩)), .d (.v (.int .i64 0)), .d (.v (.int .i64 0)), .d (.v (.int .i64 0)), .d (.v (.int .i64 0)), .d (.v (.bool false)), .d (.v (.int .i64 0)), .d (.v (.slice none 0 0)), .d (.v (.slice none 0 0)), .d (.v (.slice none 0 0)), .d (.v (.slice none 0 0)), .d (.v (.int .i64 0)), .d (.v (.int .i64 0)), .d (.v (.string ⟨#[]⟩)), .d (.v (.slice none 0 0)), .d (.v (.slice none 0 0)), .d (.v (.int .i64 0)), .d (.v (.int .i64 0)), .d (.v (.string ⟨#[]⟩)), .d (.v (.slice none 0 0)), .d (.v (.slice none 0 0))] []),
su (.store 6 (.t 4) (.t 106)),
su (.store 23 (.t 5) (.t 107)),
sq 6 (.mv (kI 15))])
 .ret)
 .skip))
 (.seq (.sem (.reg [sq 108 (.fieldA 0 (.t 2)),
sq 109 (.load none (.t 108)),
sq 110 (.bin .add (.t 109) (kI 1)),
sq 111 (.fieldA 0 (.t 9)),
sq 112 (.fieldA 4 (.t 111)),
⟨none, none, .store 1 (.t 112) (.t 110), [], (.lone [2, 108, 9, 111])⟩]))
 (.seq (.regd [sq 113 (.load (some 6) (.t 2)),
sq 114 (.load (some 23) (.t 9)),
⟨(some 115), none, .call 36 [(.t 113), (kI 1), (.t 114)], [0, 1], (.new [0, 1])⟩,
sq 116 (.load (some 23) (.t 9)),
⟨none, none, .store 6 (.t 4) (.t 115), [0, 1, 2], (.lone [9])⟩,
⟨none, none, .store 23 (.t 5) (.t 116), [0, 1, 2, 3, 4], (.lone [])⟩,
sd 6 (.mv (kI 0)) [0, 1, 2, 3, 4, 5]])
 .ret)))))))))))⟩
theorem a12_ok : afn Try.prog 12 = some a12.er := by kernel_rfl
theorem F12_ok {x0 : TStore} {x1 : Object} {r : Int × Int × (List Object) × (List Object) × (List Change) × ByteArray × ByteArray × ByteArray × Int × Int × Int × Int × Bool × Int × (List Label) × (List Owner) × (List ByteArray) × (List Manager) × Int × Int × ByteArray × ((List TValue)) × ((List TField)) × Int × Int × ByteArray × ((List TValue)) × ((List TField)) × Int} (h : F12 x0 x1 = some r) : CallD Try.prog 12 [.agg [.d (.v (.int .i64 x0.Rev)), .d (.v (.int .i64 x0.Floor)), .d (.v (.int .i64 x0.NextUid)), .d (.sl (x0.Base.map eObject)), .d (.sl (x0.Objects.map eObject)), .d (.sl (x0.History.map eChange))], .agg [.d (.v (.string x1.Meta.Kind)), .d (.v (.string x1.Meta.Namespace)), .d (.v (.string x1.Meta.Name)), .d (.v (.int .i64 x1.Meta.Uid)), .d (.v (.int .i64 x1.Meta.Version)), .d (.v (.int .i64 x1.Meta.Generation)), .d (.v (.int .i64 x1.Meta.Created)), .d (.v (.bool x1.Meta.Deleting)), .d (.v (.int .i64 x1.Meta.DeleteAt)), .d (.sl (x1.Meta.Labels.map eLabel)), .d (.sl (x1.Meta.Owners.map eOwner)), .d (.sl (x1.Meta.Finalizers.map eS)), .d (.sl (x1.Meta.Managers.map eManager)), .d (.v (.int .i64 x1.Spec.Kind)), .d (.v (.int .i64 x1.Spec.N)), .d (.v (.string x1.Spec.S)), .d (.sl (x1.Spec.List_.map eTValue)), .d (.sl (x1.Spec.Fields.map eTField)), .d (.v (.int .i64 x1.Status.Kind)), .d (.v (.int .i64 x1.Status.N)), .d (.v (.string x1.Status.S)), .d (.sl (x1.Status.List_.map eTValue)), .d (.sl (x1.Status.Fields.map eTField))]] [] (tupV [.agg [.d (.v (.int .i64 r.1)), .d (.v (.int .i64 r.2.1)), .d (.v (.int .i64 x0.NextUid)), .own 0 0 0 (r.2.2.1.length) none, .own 1 0 0 (r.2.2.2.1.length) none, .own 2 0 0 (r.2.2.2.2.1.length) none], .agg [.d (.v (.string r.2.2.2.2.2.1)), .d (.v (.string r.2.2.2.2.2.2.1)), .d (.v (.string r.2.2.2.2.2.2.2.1)), .d (.v (.int .i64 r.2.2.2.2.2.2.2.2.1)), .d (.v (.int .i64 r.2.2.2.2.2.2.2.2.2.1)), .d (.v (.int .i64 r.2.2.2.2.2.2.2.2.2.2.1)), .d (.v (.int .i64 r.2.2.2.2.2.2.2.2.2.2.2.1)), .d (.v (.bool r.2.2.2.2.2.2.2.2.2.2.2.2.1)), .d (.v (.int .i64 r.2.2.2.2.2.2.2.2.2.2.2.2.2.1)), .d (.sl (r.2.2.2.2.2.2.2.2.2.2.2.2.2.2.1.map eLabel)), .d (.sl (r.2.2.2.2.2.2.2.2.2.2.2.2.2.2.2.1.map eOwner)), .d (.sl (r.2.2.2.2.2.2.2.2.2.2.2.2.2.2.2.2.1.map eS)), .d (.sl (r.2.2.2.2.2.2.2.2.2.2.2.2.2.2.2.2.2.1.map eManager)), .d (.v (.int .i64 r.2.2.2.2.2.2.2.2.2.2.2.2.2.2.2.2.2.2.1)), .d (.v (.int .i64 r.2.2.2.2.2.2.2.2.2.2.2.2.2.2.2.2.2.2.2.1)), .d (.v (.string r.2.2.2.2.2.2.2.2.2.2.2.2.2.2.2.2.2.2.2.2.1)), .d (.sl (r.2.2.2.2.2.2.2.2.2.2.2.2.2.2.2.2.2.2.2.2.2.1.map eTValue)), .d (.sl (r.2.2.2.2.2.2.2.2.2.2.2.2.2.2.2.2.2.2.2.2.2.2.1.map eTField)), .d (.v (.int .i64 r.2.2.2.2.2.2.2.2.2.2.2.2.2.2.2.2.2.2.2.2.2.2.2.1)), .d (.v (.int .i64 r.2.2.2.2.2.2.2.2.2.2.2.2.2.2.2.2.2.2.2.2.2.2.2.2.1)), .d (.v (.string r.2.2.2.2.2.2.2.2.2.2.2.2.2.2.2.2.2.2.2.2.2.2.2.2.2.1)), .d (.sl (r.2.2.2.2.2.2.2.2.2.2.2.2.2.2.2.2.2.2.2.2.2.2.2.2.2.2.1.map eTValue)), .d (.sl (r.2.2.2.2.2.2.2.2.2.2.2.2.2.2.2.2.2.2.2.2.2.2.2.2.2.2.2.1.map eTField))], .c (.d (.v (.int .i64 r.2.2.2.2.2.2.2.2.2.2.2.2.2.2.2.2.2.2.2.2.2.2.2.2.2.2.2.2)))]) [some (.arr 0 23 (r.2.2.1.map eObject)), some (.arr 0 23 (r.2.2.2.1.map eObject)), some (.arr 0 25 (r.2.2.2.2.1.map eChange))] := by
 refine callS a12_ok (by simp [a12]) ?_
 rw [F12] at h
 simp only [a12, VW.down, Nat.reduceEqDiff, reduceCtorEq, Nat.reduceAdd, Nat.reduceLeDiff, Nat.reduceLT, Nat.reduceBEq, Nat.reduceSub, EE.down]
 obtain ⟨t1, ht1, h⟩ := bi h
 refine cN [] (F31_ok ht1) trivial ?_
 refine ww ?_
 refine condBh h (fun c2 h => ?_) (fun c2 h => ?_)
 ·refine ww ?_
  obtain ⟨t3, ht3, h⟩ := bi h
  refine cN [] (F32_ok ht3) trivial ?_
  refine ww ?_
  obtain rfl := Option.some.inj h
  exact eF [some 4, some 5, some 6]
 ·refine ww ?_
  obtain ⟨t4, ht4, h⟩ := bi h
  refine cN [] (F33_ok ht4) trivial ?_
  refine ww ?_
  obtain ⟨t5, ht5, h⟩ := bi h
  refine cN [] (F21_ok ht5) trivial ?_
  refine ww ?_
  refine kD_new (by simp [wrs, allW, hset]) ?_
  refine ww ?_
  refine kD_new (by simp [wrs, allW, hset]) ?_
  refine ww ?_
  refine condBh h (fun c6 h => ?_) (fun c6 h => ?_)
  ·refine ww ?_
   obtain ⟨t7, ht7, h⟩ := bi h
   refine cN [] (F32_ok ht7) trivial ?_
   refine ww ?_
   obtain rfl := Option.some.inj h
   exact eF [some 9, some 10, some 11]
  ·refine ww ?_
   obtain ⟨o8, ho, h⟩ := bi h
   refine cutS (fun s => s = ⟨[(2, .one (.c (.pt 0 0))), (3, .one (.c (.pt 1 0))), (4, .one (.c (.pt 2 0))), (5, .one (.c (.pt 3 0))), (7, .one (.c (.pt 4 0))), (30, .one (.c (.d (.v (.bool o8)))))], [some (.box [.d (.v (.int .i64 x0.Rev)), .d (.v (.int .i64 x0.Floor)), .d (.v (.int .i64 x0.NextUid)), .d (.sl (x0.Base.map eObject)), .d (.sl (x0.Objects.map eObject)), .d (.sl (x0.History.map eChange))]), some (.box [.d (.v (.string x1.Meta.Kind)), .d (.v (.string x1.Meta.Namespace)), .d (.v (.string x1.Meta.Name)), .d (.v (.int .i64 x1.Meta.Uid)), .d (.v (.int .i64 x1.Meta.Version)), .d (.v (.int .i64 x1.Meta.Generation)), .d (.v (.int .i64 x1.Meta.Created)), .d (.v (.bool x1.Meta.Deleting)), .d (.v (.int .i64 x1.Meta.DeleteAt)), .d (.sl (x1.Meta.Labels.map eLabel)), .d (.sl (x1.Meta.Owners.map eOwner)), .d (.sl (x1.Meta.Finalizers.map eS)), .d (.sl (x1.Meta.Managers.map eManager)), .d (.v (.int .i64 x1.Spec.Kind)), .d (.v (.int .i64 x1.Spec.N)), .d (.v (.string x1.Spec.S)), .d (.sl (x1.Spec.List_.map eTValue)), .d (.sl (x1.Spec.Fields.map eTField)), .d (.v (.int .i64 x1.Status.Kind)), .d (.v (.int .i64 x1.Status.N)), .d (.v (.string x1.Status.S)), .d (.sl (x1.Status.List_.map eTValue)), .d (.sl (x1.Status.Fields.map eTField))]), some (.box [.d (.v (.int .i64 0)), .d (.v (.int .i64 0)), .d (.v (.int .i64 0)), .d (.v (.slice none 0 0)), .d (.v (.slice none 0 0)), .d (.v (.slice none 0 0))]), some (.box [.d (.v (.string ((⟨#[]⟩ : ByteArray)))), .d (.v (.string ((⟨#[]⟩ : ByteArray)))), .d (.v (.string ((⟨#[]⟩ : ByteArray)))), .d (.v (.int .i64 0)), .d (.v (.int .i64 0)), .d (.v (.int .i64 0)), .d (.v (.int .i64 0)), .d (.v (.bool false)), .d (.v (.int .i64 0)), .d (.v (.slice none 0 0)), .d (.v (.slice none 0 0)), .d (.v (.slice none 0 0)), .d (.v (.slice none 0 0)), .d (.v (.int .i64 0)), .d (.v (.int .i64 0)), .d (.v (.string ((⟨#[]⟩ : ByteArray)))), .d (.v (.slice none 0 0)), .d (.v (.slice none 0 0)), .d (.v (.int .i64 0)), .d (.v (.int .i64 0)), .d (.v (.string ((⟨#[]⟩ : ByteArray)))), .d (.v (.slice none 0 0)), .d (.v (.slice none 0 0))]), some (.box [.d (.v (.string t5.1)), .d (.v (.string t5.2.1)), .d (.v (.string t5.2.2.1)), .d (.v (.int .i64 t5.2.2.2.1)), .d (.v (.int .i64 t5.2.2.2.2.1)), .d (.v (.int .i64 t5.2.2.2.2.2.1)), .d (.v (.int .i64 t5.2.2.2.2.2.2.1)), .d (.v (.bool t5.2.2.2.2.2.2.2.1)), .d (.v (.int .i64 t5.2.2.2.2.2.2.2.2.1)), .own 5 0 0 (t5.2.2.2.2.2.2.2.2.2.1.length) none, .own 6 0 0 (t5.2.2.2.2.2.2.2.2.2.2.1.length) none, .own 7 0 0 (t5.2.2.2.2.2.2.2.2.2.2.2.1.length) none, .own 8 0 0 (t5.2.2.2.2.2.2.2.2.2.2.2.2.1.length) none, .d (.v (.int .i64 t5.2.2.2.2.2.2.2.2.2.2.2.2.2.1)), .d (.v (.int .i64 t5.2.2.2.2.2.2.2.2.2.2.2.2.2.2.1)), .d (.v (.string t5.2.2.2.2.2.2.2.2.2.2.2.2.2.2.2.1)), .d (.sl (t5.2.2.2.2.2.2.2.2.2.2.2.2.2.2.2.2.1.map eTValue)), .d (.sl (t5.2.2.2.2.2.2.2.2.2.2.2.2.2.2.2.2.2.1.map eTField)), .d (.v (.int .i64 t5.2.2.2.2.2.2.2.2.2.2.2.2.2.2.2.2.2.2.1)), .d (.v (.int .i64 t5.2.2.2.2.2.2.2.2.2.2.2.2.2.2.2.2.2.2.2.1)), .d (.v (.string t5.2.2.2.2.2.2.2.2.2.2.2.2.2.2.2.2.2.2.2.2.1)), .d (.sl (t5.2.2.2.2.2.2.2.2.2.2.2.2.2.2.2.2.2.2.2.2.2.1.map eTValue)), .d (.sl (t5.2.2.2.2.2.2.2.2.2.2.2.2.2.2.2.2.2.2.2.2.2.2.1.map eTField))]), some (.arr 0 2 (t5.2.2.2.2.2.2.2.2.2.1.map eLabel)), some (.arr 0 5 (t5.2.2.2.2.2.2.2.2.2.2.1.map eOwner)), some (.arr 0 1 (t5.2.2.2.2.2.2.2.2.2.2.2.1.map eS)), some (.arr 0 2 (t5.2.2.2.2.2.2.2.2.2.2.2.2.1.map eManager))]⟩) ?_ ?_
   ·have h := ho
    clear ho
    refine ww ?_
    refine guardSh h (fun g9 h => ?_) (fun g9 h => ?_)
    ·refine ww ?_
     refine guardSh h (fun g10 h => ?_) (fun g10 h => ?_)
     ·refine ww ?_
      obtain rfl := Option.some.inj h
      exact eM [some 0, some 1, some 2, some 3, some 8, some 4, some 5, some 6, some 7] rfl
     ·refine ww ?_
      refine guardSh h (fun g11 h => ?_) (fun g11 h => ?_)
      ·refine ww ?_
       obtain rfl := Option.some.inj h
       exact eM [some 0, some 1, some 2, some 3, some 8, some 4, some 5, some 6, some 7] rfl
      ·refine ww ?_
       obtain rfl := Option.some.inj h
       exact eM [some 0, some 1, some 2, some 3, some 8, some 4, some 5, some 6, some 7] rfl
    ·refine ww ?_
     refine guardSh h (fun g12 h => ?_) (fun g12 h => ?_)
     ·refine ww ?_
      obtain rfl := Option.some.inj h
      exact eM [some 0, some 1, some 2, some 3, some 8, some 4, some 5, some 6, some 7] rfl
     ·refine ww ?_
      obtain rfl := Option.some.inj h
      exact eM [some 0, some 1, some 2, some 3, some 8, some 4, some 5, some 6, some 7] rfl
   ·rintro _ rfl
    clear ho
    refine ww ?_
    refine condBh h (fun c13 h => ?_) (fun c13 h => ?_)
    ·refine ww ?_
     obtain ⟨t14, ht14, h⟩ := bi h
     refine cN [] (F32_ok ht14) trivial ?_
     refine ww ?_
     obtain rfl := Option.some.inj h
     exact eF [some 9, some 10, some 11]
    ·refine ww ?_
     obtain ⟨t15, ht15, h⟩ := bi h
     refine cN [] (F34_ok ht15) trivial ?_
     refine ww ?_
     obtain ⟨o16, ho, h⟩ := bi h
     refine cutS (fun s => s = ⟨[(2, .one (.c (.pt 0 0))), (4, .one (.c (.pt 1 0))), (5, .one (.c (.pt 2 0))), (7, .one (.c (.pt 3 0))), (9, .one (.c (.pt 8 0)))], [some (.box [.d (.v (.int .i64 x0.Rev)), .d (.v (.int .i64 x0.Floor)), .d (.v (.int .i64 x0.NextUid)), .d (.sl (x0.Base.map eObject)), .d (.sl (x0.Objects.map eObject)), .d (.sl (x0.History.map eChange))]), some (.box [.d (.v (.int .i64 0)), .d (.v (.int .i64 0)), .d (.v (.int .i64 0)), .d (.v (.slice none 0 0)), .d (.v (.slice none 0 0)), .d (.v (.slice none 0 0))]), some (.box [.d (.v (.string ((⟨#[]⟩ : ByteArray)))), .d (.v (.string ((⟨#[]⟩ : ByteArray)))), .d (.v (.string ((⟨#[]⟩ : ByteArray)))), .d (.v (.int .i64 0)), .d (.v (.int .i64 0)), .d (.v (.int .i64 0)), .d (.v (.int .i64 0)), .d (.v (.bool false)), .d (.v (.int .i64 0)), .d (.v (.slice none 0 0)), .d (.v (.slice none 0 0)), .d (.v (.slice none 0 0)), .d (.v (.slice none 0 0)), .d (.v (.int .i64 0)), .d (.v (.int .i64 0)), .d (.v (.string ((⟨#[]⟩ : ByteArray)))), .d (.v (.slice none 0 0)), .d (.v (.slice none 0 0)), .d (.v (.int .i64 0)), .d (.v (.int .i64 0)), .d (.v (.string ((⟨#[]⟩ : ByteArray)))), .d (.v (.slice none 0 0)), .d (.v (.slice none 0 0))]), some (.box [.d (.v (.string t5.1)), .d (.v (.string t5.2.1)), .d (.v (.string t5.2.2.1)), .d (.v (.int .i64 t5.2.2.2.1)), .d (.v (.int .i64 t5.2.2.2.2.1)), .d (.v (.int .i64 t5.2.2.2.2.2.1)), .d (.v (.int .i64 t5.2.2.2.2.2.2.1)), .d (.v (.bool t5.2.2.2.2.2.2.2.1)), .d (.v (.int .i64 t5.2.2.2.2.2.2.2.2.1)), .own 4 0 0 (t5.2.2.2.2.2.2.2.2.2.1.length) none, .own 5 0 0 (t5.2.2.2.2.2.2.2.2.2.2.1.length) none, .own 6 0 0 (t5.2.2.2.2.2.2.2.2.2.2.2.1.length) none, .own 7 0 0 (t5.2.2.2.2.2.2.2.2.2.2.2.2.1.length) none, .d (.v (.int .i64 t5.2.2.2.2.2.2.2.2.2.2.2.2.2.1)), .d (.v (.int .i64 t5.2.2.2.2.2.2.2.2.2.2.2.2.2.2.1)), .d (.v (.string t5.2.2.2.2.2.2.2.2.2.2.2.2.2.2.2.1)), .d (.sl (t5.2.2.2.2.2.2.2.2.2.2.2.2.2.2.2.2.1.map eTValue)), .d (.sl (t5.2.2.2.2.2.2.2.2.2.2.2.2.2.2.2.2.2.1.map eTField)), .d (.v (.int .i64 t5.2.2.2.2.2.2.2.2.2.2.2.2.2.2.2.2.2.2.1)), .d (.v (.int .i64 t5.2.2.2.2.2.2.2.2.2.2.2.2.2.2.2.2.2.2.2.1)), .d (.v (.string t5.2.2.2.2.2.2.2.2.2.2.2.2.2.2.2.2.2.2.2.2.1)), .d (.sl (t5.2.2.2.2.2.2.2.2.2.2.2.2.2.2.2.2.2.2.2.2.2.1.map eTValue)), .d (.sl (t5.2.2.2.2.2.2.2.2.2.2.2.2.2.2.2.2.2.2.2.2.2.2.1.map eTField))]), some (.arr 0 2 (t5.2.2.2.2.2.2.2.2.2.1.map eLabel)), some (.arr 0 5 (t5.2.2.2.2.2.2.2.2.2.2.1.map eOwner)), some (.arr 0 1 (t5.2.2.2.2.2.2.2.2.2.2.2.1.map eS)), some (.arr 0 2 (t5.2.2.2.2.2.2.2.2.2.2.2.2.1.map eManager)), some (.box [.d (.v (.string x1.Meta.Kind)), .d (.v (.string x1.Meta.Namespace)), .d (.v (.string x1.Meta.Name)), .d (.v (.int .i64 t5.2.2.2.1)), .d (.v (.int .i64 t5.2.2.2.2.1)), .d (.v (.int .i64 o16)), .d (.v (.int .i64 t5.2.2.2.2.2.2.1)), .d (.v (.bool x1.Meta.Deleting)), .d (.v (.int .i64 x1.Meta.DeleteAt)), .own 9 0 0 (t15.1.length) none, .own 10 0 0 (t15.2.1.length) none, .own 11 0 0 (t15.2.2.1.length) none, .own 12 0 0 (t15.2.2.2.1.length) none, .d (.v (.int .i64 t15.2.2.2.2.1)), .d (.v (.int .i64 t15.2.2.2.2.2.1)), .d (.v (.string t15.2.2.2.2.2.2.1)), .d (.sl (t15.2.2.2.2.2.2.2.1.map eTValue)), .d (.sl (t15.2.2.2.2.2.2.2.2.1.map eTField)), .d (.v (.int .i64 t15.2.2.2.2.2.2.2.2.2.1)), .d (.v (.int .i64 t15.2.2.2.2.2.2.2.2.2.2.1)), .d (.v (.string t15.2.2.2.2.2.2.2.2.2.2.2.1)), .d (.sl (t15.2.2.2.2.2.2.2.2.2.2.2.2.1.map eTValue)), .d (.sl (t15.2.2.2.2.2.2.2.2.2.2.2.2.2.map eTField))]), some (.arr 0 2 (t15.1.map eLabel)), some (.arr 0 5 (t15.2.1.map eOwner)), some (.arr 0 1 (t15.2.2.1.map eS)), some (.arr 0 2 (t15.2.2.2.1.map eManager))]⟩) ?_ ?_
     ·have h := ho
      clear ho
      refine ww ?_
      obtain ⟨t17, ht17, h⟩ := bi h
      refine cN [] (F35_ok ht17) trivial ?_
      refine ww ?_
      refine condBh h (fun c18 h => ?_) (fun c18 h => ?_)
      ·refine ww ?_
       obtain rfl := Option.some.inj h
       exact eM [some 0, some 2, some 3, some 4, some 5, some 6, some 7, some 8, some 13, some 9, some 10, some 11, some 12] rfl
      ·refine ww ?_
       obtain rfl := Option.some.inj h
       exact eM [some 0, some 2, some 3, some 4, some 5, some 6, some 7, some 8, some 13, some 9, some 10, some 11, some 12] rfl
     ·rintro _ rfl
      clear ho
      refine ww ?_
      obtain ⟨t19, ht19, h⟩ := bi h
      refine callX_bor (F13_ok ht19) (by simp only [borAs, bors, hp, List.getElem?_cons_zero, List.getElem?_cons_succ, Option.join_some, List.drop_zero, bor_full', true_and, Nat.zero_add, List.length_map, Nat.le_refl, nrm, List.length_cons, List.length_nil, Nat.reduceAdd, Nat.reduceLeDiff, List.take_succ_cons, List.take_zero, List.take_nil, List.map_cons, List.map_nil, List.length_set, EE.down]) rfl ?_
      refine ww ?_
      refine condBh h (fun c20 h => ?_) (fun c20 h => ?_)
      ·refine ww ?_
       obtain ⟨t21, ht21, h⟩ := bi h
       refine cN [] (F32_ok ht21) trivial ?_
       refine ww ?_
       refine kD_new (by simp [wrs, allW, hset]) ?_
       refine ww ?_
       obtain rfl := Option.some.inj h
       exact eF [some 13, some 14, some 15]
      ·refine ww ?_
       refine condSh h (fun c22 h => ?_) (fun c22 h => ?_)
       ·refine ww ?_
        obtain ⟨t23, ht23, h⟩ := bi h
        refine cN [] (F32_ok ht23) trivial ?_
        refine ww ?_
        obtain rfl := Option.some.inj h
        exact eF [some 13, some 14, some 15]
       ·refine ww ?_
        obtain ⟨o24, ho, h⟩ := bi h
        refine cutS (fun s => s = ⟨[(2, .one (.c (.pt 0 0))), (4, .one (.c (.pt 1 0))), (5, .one (.c (.pt 2 0))), (9, .one (.c (.pt 3 0)))], [some (.box [.d (.v (.int .i64 x0.Rev)), .d (.v (.int .i64 x0.Floor)), .d (.v (.int .i64 x0.NextUid)), .d (.sl (x0.Base.map eObject)), .d (.sl (x0.Objects.map eObject)), .d (.sl (x0.History.map eChange))]), some (.box [.d (.v (.int .i64 0)), .d (.v (.int .i64 0)), .d (.v (.int .i64 0)), .d (.v (.slice none 0 0)), .d (.v (.slice none 0 0)), .d (.v (.slice none 0 0))]), some (.box [.d (.v (.string ((⟨#[]⟩ : ByteArray)))), .d (.v (.string ((⟨#[]⟩ : ByteArray)))), .d (.v (.string ((⟨#[]⟩ : ByteArray)))), .d (.v (.int .i64 0)), .d (.v (.int .i64 0)), .d (.v (.int .i64 0)), .d (.v (.int .i64 0)), .d (.v (.bool false)), .d (.v (.int .i64 0)), .d (.v (.slice none 0 0)), .d (.v (.slice none 0 0)), .d (.v (.slice none 0 0)), .d (.v (.slice none 0 0)), .d (.v (.int .i64 0)), .d (.v (.int .i64 0)), .d (.v (.string ((⟨#[]⟩ : ByteArray)))), .d (.v (.slice none 0 0)), .d (.v (.slice none 0 0)), .d (.v (.int .i64 0)), .d (.v (.int .i64 0)), .d (.v (.string ((⟨#[]⟩ : ByteArray)))), .d (.v (.slice none 0 0)), .d (.v (.slice none 0 0))]), some (.box [.d (.v (.string x1.Meta.Kind)), .d (.v (.string x1.Meta.Namespace)), .d (.v (.string x1.Meta.Name)), .d (.v (.int .i64 t5.2.2.2.1)), .d (.v (.int .i64 ((IntKind.i64.wrap (x0.Rev + 1))))), .d (.v (.int .i64 o16)), .d (.v (.int .i64 t5.2.2.2.2.2.2.1)), .d (.v (.bool x1.Meta.Deleting)), .d (.v (.int .i64 x1.Meta.DeleteAt)), .d (.sl (t15.1.map eLabel)), .d (.sl (t15.2.1.map eOwner)), .d (.sl (t15.2.2.1.map eS)), .d (.sl (t15.2.2.2.1.map eManager)), .d (.v (.int .i64 t15.2.2.2.2.1)), .d (.v (.int .i64 t15.2.2.2.2.2.1)), .d (.v (.string t15.2.2.2.2.2.2.1)), .d (.sl (t15.2.2.2.2.2.2.2.1.map eTValue)), .d (.sl (t15.2.2.2.2.2.2.2.2.1.map eTField)), .d (.v (.int .i64 t15.2.2.2.2.2.2.2.2.2.1)), .d (.v (.int .i64 t15.2.2.2.2.2.2.2.2.2.2.1)), .d (.v (.string t15.2.2.2.2.2.2.2.2.2.2.2.1)), .d (.sl (t15.2.2.2.2.2.2.2.2.2.2.2.2.1.map eTValue)), .d (.sl (t15.2.2.2.2.2.2.2.2.2.2.2.2.2.map eTField))])]⟩) ?_ ?_
        ·have h := ho
         clear ho
         refine ww ?_
         obtain rfl := Option.some.inj h
         exact eM [some 0, some 1, some 2, some 8] rfl
        ·rintro _ rfl
         clear ho
         refine ww ?_
         obtain ⟨t25, ht25, h⟩ := bi h
         refine cN [] (F36_ok ht25) trivial ?_
         refine ww ?_
         refine kD_new (by simp [wrs, allW, hset]) ?_
         refine ww ?_
         obtain rfl := Option.some.inj h
         exact eF [some 4, some 5, some 6]

/- orchestrator/store.At -/
def F16 (x0 : TStore) (x1 : Int) : Option ((List Object) × Int) := (((if x1 < 0 then some true else some (decide (x0.Rev < x1)))).bind fun o1 => (if o1 = true then some (([], 5)) else (if x1 < x0.Floor then some (([], 10)) else (F48 x0 x1).bind fun t5 => (F47 t5).bind fun t6 => some ((t6, 0)))))
def a16 : AFn := ⟨24, [(.tmp 4), (.tmp 5)],
 (.seq (.reg [sq 2 (.box (.t 0)),
sq 4 (.mv kN),
sq 5 (.mv (kI 0))])
 (.seq (.block 0 (.seq (.sem (.reg [sq 7 (.mv (.t 1)),
sq 8 (.bin .lss (.t 7) (kI 0)),
sq 9 (.mv (.t 8)),
⟨(some 10), (some (9, false)), .mv (.t 1), [], (.new [])⟩,
⟨(some 11), (some (9, false)), .fieldA 0 (.t 2), [], (.new [])⟩,
⟨(some 12), (some (9, false)), .load none (.t 11), [], (.new [])⟩,
⟨(some 13), (some (9, false)), .bin .gtr (.t 10) (.t 12), [], (.new [])⟩,
sq 14 (.pick (.t 9) (kB true) (.t 13)),
sq 6 (.mv (.t 14))]))
 (.cond (.t 6)
 (.seq (.reg [sq 4 (.mv kN),
sq 5 (.mv (kI 5))])
 .ret)
 (.seq (.reg [sq 16 (.mv (.t 1)),
sq 17 (.fieldA 1 (.t 2)),
sq 18 (.load none (.t 17)),
sq 19 (.bin .lss (.t 16) (.t 18)),
sq 15 (.mv (.t 19))])
 (.cond (.t 15)
 (.seq (.reg [sq 4 (.mv kN),
sq 5 (.mv (kI 10))])
 .ret)
 .skip)))))
 (.seq (.reg [sq 20 (.load (some 6) (.t 2)),
sq 21 (.mv (.t 1)),
sq 22 (.call 48 [(.t 20), (.t 21)]),
sq 23 (.call 47 [(.t 22)]),
sq 4 (.mv (.t 23)),
sq 5 (.mv (kI 0))])
 .ret)))⟩
theorem a16_ok : afn Try.prog 16 = some a16.er := by kernel_rfl
theorem F16_ok {x0 : TStore} {x1 : Int} {r : (List Object) × Int} (h : F16 x0 x1 = some r) : CallD Try.prog 16 [.agg [.d (.v (.int .i64 x0.Rev)), .d (.v (.int .i64 x0.Floor)), .d (.v (.int .i64 x0.NextUid)), .d (.sl (x0.Base.map eObject)), .d (.sl (x0.Objects.map eObject)), .d (.sl (x0.History.map eChange))], .c (.d (.v (.int .i64 x1)))] [] (tupV [.c (.own 0 0 0 (r.1.length) none), .c (.d (.v (.int .i64 r.2)))]) [some (.arr 0 23 (r.1.map eObject))] := by
 refine callS a16_ok (by simp [a16]) ?_
 rw [F16] at h
 simp only [a16, VW.down, Nat.reduceEqDiff, reduceCtorEq, Nat.reduceAdd, Nat.reduceLeDiff, Nat.reduceLT, Nat.reduceBEq, Nat.reduceSub, EE.down]
 obtain ⟨o1, ho, h⟩ := bi h
 refine cutS (fun s => s = ⟨[(1, .one (.c (.d (.v (.int .i64 x1))))), (2, .one (.c (.pt 0 0))), (6, .one (.c (.d (.v (.bool o1)))))], [some (.box [.d (.v (.int .i64 x0.Rev)), .d (.v (.int .i64 x0.Floor)), .d (.v (.int .i64 x0.NextUid)), .d (.sl (x0.Base.map eObject)), .d (.sl (x0.Objects.map eObject)), .d (.sl (x0.History.map eChange))])]⟩) ?_ ?_
 ·have h := ho
  clear ho
  refine ww ?_
  refine guardSh h (fun g2 h => ?_) (fun g2 h => ?_)
  ·refine ww ?_
   obtain rfl := Option.some.inj h
   exact eM [some 0] rfl
  ·refine ww ?_
   obtain rfl := Option.some.inj h
   exact eM [some 0] rfl
 ·rintro _ rfl
  clear ho
  refine ww ?_
  refine condBh h (fun c3 h => ?_) (fun c3 h => ?_)
  ·refine ww ?_
   obtain rfl := Option.some.inj h
   exact eF [none]
  ·refine ww ?_
   refine condSh h (fun c4 h => ?_) (fun c4 h => ?_)
   ·refine ww ?_
    obtain rfl := Option.some.inj h
    exact eF [none]
   ·refine ww ?_
    obtain ⟨t5, ht5, h⟩ := bi h
    refine cN [] (F48_ok ht5) trivial ?_
    refine ww ?_
    obtain ⟨t6, ht6, h⟩ := bi h
    refine callX_gen (as1 := [.c (.d (.sl (t5.map eObject)))]) [(1, .arr 1 23 [])] [some 0, none] [] (F47_ok ht6) ⟨?_, rfl, ?_⟩ ?_ ?_ ?_ ?_ ?_ ?_ ?_ ?_
    · simp only [ZZ.down, Nat.reduceEqDiff, reduceCtorEq, Nat.reduceAdd, Nat.reduceLeDiff, Nat.reduceLT, Nat.reduceBNe, EE.down]
    · simp only [ZZ.down, Nat.reduceEqDiff, reduceCtorEq, Nat.reduceAdd, Nat.reduceLeDiff, Nat.reduceLT, Nat.reduceBNe, EE.down]
    · simp only [ZZ.down, Nat.reduceEqDiff, reduceCtorEq, Nat.reduceAdd, Nat.reduceLeDiff, Nat.reduceLT, Nat.reduceBNe, EE.down]
    · rfl
    · rfl
    · simp [liveAll, A1.live, C.live]
    · rfl
    · decide
    · exact trivial
    refine ww ?_
    obtain rfl := Option.some.inj h
    exact eF [some 2]
end Go.Proofs.Ytbopaemngpbdgaa
