/- Each Go function as a function over typed data, and its walk. -/
import Derived.Test.YtbopaemngpbdgaaDX3
namespace Go.Proofs.Ytbopaemngpbdgaa
open Go Go.Fw Go.Shelf
set_option maxRecDepth 100000
set_option maxHeartbeats 4000000
set_option linter.unusedSimpArgs false
set_option linter.unusedVariables false
/- orchestrator/store.Delete -/
def F27 (x0 : TStore) (x1 : ByteArray) (x2 : Int) : Option (Int × Int × (List Object) × (List Object) × (List Change) × Object × Int) := (F21 x0 x1).bind fun t1 => (if (nb t1.2.2.2.2.2.2.2.2.2.2.2.2.2.2.2.2.2.2.2.2.2.2.2) = true then (F32 x0).bind fun t3 => some ((x0.Rev, x0.Floor, t3.1, t3.2.1, t3.2.2, (⟨(⟨(⟨#[]⟩ : ByteArray), (⟨#[]⟩ : ByteArray), (⟨#[]⟩ : ByteArray), 0, 0, 0, 0, false, 0, [], [], [], []⟩ : Meta), (⟨0, 0, (⟨#[]⟩ : ByteArray), [], []⟩ : TValue), (⟨0, 0, (⟨#[]⟩ : ByteArray), [], []⟩ : TValue)⟩ : Object), 7)) else (((if ¬ (x2 = 0) then some (decide (¬ (x2 = t1.2.2.2.2.1))) else some false)).bind fun o4 => (if o4 = true then (F32 x0).bind fun t7 => some ((x0.Rev, x0.Floor, t7.1, t7.2.1, t7.2.2, (⟨(⟨(⟨#[]⟩ : ByteArray), (⟨#[]⟩ : ByteArray), (⟨#[]⟩ : ByteArray), 0, 0, 0, 0, false, 0, [], [], [], []⟩ : Meta), (⟨0, 0, (⟨#[]⟩ : ByteArray), [], []⟩ : TValue), (⟨0, 0, (⟨#[]⟩ : ByteArray), [], []⟩ : TValue)⟩ : Object), 9)) else (if 1000000000000000 ≤ x0.Rev then (F32 x0).bind fun t9 => some ((x0.Rev, x0.Floor, t9.1, t9.2.1, t9.2.2, (⟨(⟨(⟨#[]⟩ : ByteArray), (⟨#[]⟩ : ByteArray), (⟨#[]⟩ : ByteArray), 0, 0, 0, 0, false, 0, [], [], [], []⟩ : Meta), (⟨0, 0, (⟨#[]⟩ : ByteArray), [], []⟩ : TValue), (⟨0, 0, (⟨#[]⟩ : ByteArray), [], []⟩ : TValue)⟩ : Object), 15)) else ((some (())).bind fun o10 => (F36 x0 2 ((⟨(⟨t1.1, t1.2.1, t1.2.2.1, t1.2.2.2.1, (IntKind.i64.wrap (x0.Rev + 1)), t1.2.2.2.2.2.1, t1.2.2.2.2.2.2.1, t1.2.2.2.2.2.2.2.1, t1.2.2.2.2.2.2.2.2.1, t1.2.2.2.2.2.2.2.2.2.1, t1.2.2.2.2.2.2.2.2.2.2.1, t1.2.2.2.2.2.2.2.2.2.2.2.1, t1.2.2.2.2.2.2.2.2.2.2.2.2.1⟩ : Meta), (⟨t1.2.2.2.2.2.2.2.2.2.2.2.2.2.1, t1.2.2.2.2.2.2.2.2.2.2.2.2.2.2.1, t1.2.2.2.2.2.2.2.2.2.2.2.2.2.2.2.1, t1.2.2.2.2.2.2.2.2.2.2.2.2.2.2.2.2.1, t1.2.2.2.2.2.2.2.2.2.2.2.2.2.2.2.2.2.1⟩ : TValue), (⟨t1.2.2.2.2.2.2.2.2.2.2.2.2.2.2.2.2.2.2.1, t1.2.2.2.2.2.2.2.2.2.2.2.2.2.2.2.2.2.2.2.1, t1.2.2.2.2.2.2.2.2.2.2.2.2.2.2.2.2.2.2.2.2.1, t1.2.2.2.2.2.2.2.2.2.2.2.2.2.2.2.2.2.2.2.2.2.1, t1.2.2.2.2.2.2.2.2.2.2.2.2.2.2.2.2.2.2.2.2.2.2.1⟩ : TValue)⟩ : Object))).bind fun t11 => some ((t11.1, t11.2.1, t11.2.2.1, t11.2.2.2.1, t11.2.2.2.2, (⟨(⟨t1.1, t1.2.1, t1.2.2.1, t1.2.2.2.1, (IntKind.i64.wrap (x0.Rev + 1)), t1.2.2.2.2.2.1, t1.2.2.2.2.2.2.1, t1.2.2.2.2.2.2.2.1, t1.2.2.2.2.2.2.2.2.1, t1.2.2.2.2.2.2.2.2.2.1, t1.2.2.2.2.2.2.2.2.2.2.1, t1.2.2.2.2.2.2.2.2.2.2.2.1, t1.2.2.2.2.2.2.2.2.2.2.2.2.1⟩ : Meta), (⟨t1.2.2.2.2.2.2.2.2.2.2.2.2.2.1, t1.2.2.2.2.2.2.2.2.2.2.2.2.2.2.1, t1.2.2.2.2.2.2.2.2.2.2.2.2.2.2.2.1, t1.2.2.2.2.2.2.2.2.2.2.2.2.2.2.2.2.1, t1.2.2.2.2.2.2.2.2.2.2.2.2.2.2.2.2.2.1⟩ : TValue), (⟨t1.2.2.2.2.2.2.2.2.2.2.2.2.2.2.2.2.2.2.1, t1.2.2.2.2.2.2.2.2.2.2.2.2.2.2.2.2.2.2.2.1, t1.2.2.2.2.2.2.2.2.2.2.2.2.2.2.2.2.2.2.2.2.1, t1.2.2.2.2.2.2.2.2.2.2.2.2.2.2.2.2.2.2.2.2.2.1, t1.2.2.2.2.2.2.2.2.2.2.2.2.2.2.2.2.2.2.2.2.2.2.1⟩ : TValue)⟩ : Object), 0)))))))
def a27 : AFn := ⟨52, [(.cell 6 (some 6)), (.cell 7 (some 23)), (.tmp 8)],
 (.seq (.reg [sq 3 (.box (.t 0)),
sq 6 (.zbox [.d (.v (.int .i64 0)), .d (.v (.int .i64 0)), .d (.v (.int .i64 0)), .d (.v (.slice none 0 0)), .d (.v (.slice none 0 0)), .d (.v (.slice none 0 0))]),
sq 7 (.zbox [.d (.v (.string ⟨#[]⟩)), .d (.v (.string ⟨#[]⟩)), .d (.v (.string ⟨#[]⟩)), .d (.v (.int .i64 0)), .d (.v (.int .i64 0)), .d (.v (.int .i64 0)), .d (.v (.int .i64 0)), .d (.v (.bool false)), .d (.v (.int .i64 0)), .d (.v (.slice none 0 0)), .d (.v (.slice none 0 0)), .d (.v (.slice none 0 0)), .d (.v (.slice none 0 0)), .d (.v (.int .i64 0)), .d (.v (.int .i64 0)), .d (.v (.string ⟨#[]⟩)), .d (.v (.slice none 0 0)), .d (.v (.slice none 0 0)), .d (.v (.int .i64 0)), .d (.v (.int .i64 0)), .d (.v (.string ⟨#[]⟩)), .d (.v (.slice none 0 0)), .d (.v (.slice none 0 0))]),
sq 8 (.mv (kI 0))])
 (.seq (.reg [sq 12 (.load (some 6) (.t 3)),
sq 13 (.mv (.t 1)),
sq 14 (.call 21 [(.t 12), (.t 13)]),
sq 11 (.mv (.t 14)),
sq 15 (.ext (.t 11) 0),
sq 16 (.ext (.t 11) 1),
sq 9 (.zbox [.d (.v (.string ⟨#[]⟩)), .d (.v (.string ⟨#[]⟩)), .d (.v (.string ⟨#[]⟩)), .d (.v (.int .i64 0)), .d (.v (.int .i64 0)), .d (.v (.int .i64 0)), .d (.v (.int .i64 0)), .d (.v (.bool false)), .d (.v (.int .i64 0)), .d (.v (.slice none 0 0)), .d (.v (.slice none 0 0)), .d (.v (.slice none 0 0)), .d (.v (.slice none 0 0)), .d (.v (.int .i64 0)), .d (.v (.int .i64 0)), .d (.v (.string ⟨#[]⟩)), .d (.v (.slice none 0 0)), .d (.v (.slice none 0 0)), .d (.v (.int .i64 0)), .d (.v (.int .i64 0)), .d (.v (.string ⟨#[]⟩)), .d (.v (.slice none 0 0)), .d (.v (.slice none 0 0))]),
su (.store 23 (.t 9) (.t 15)),
sq 10 (.mv (.t 16))])
 (.seq (.block 0 (.seq (.reg [sq 18 (.mv (.t 10)),
sq 19 (.not (.t 18)),
sq 17 (.mv (.t 19))])
 (.cond (.t 17)
 (.seq (.reg [sq 20 (.load (some 6) (.t 3)),
sq 21 (.call 32 [(.t 20)]),
sq 22 (.build [.d (.v (.string ⟨#[]⟩)), .d (.v (.string ⟨#[]⟩)), .d (.v (.string ⟨#[]⟩)), .d (.v (.int .i64 0)), .d (.v (.int .i64 0)), .d (.v (.int .i64 0)), .d (.v (.int .i64 0)), .d (.v (.bool false)), .d (.v (.int .i64 0)), .d (.v (.slice none 0 0)), .d (.v (.slice none 0 0)), .d (.v (.slice none 0 0)), .d (.v (.slice none 0 0)), .d (.v (.int .i64 0)), .d (.v (.int .i64 0)), .d (.v (.string ⟨#[]⟩)), .d (.v (.slice none 0 0)), .d (.v (.slice none 0 0)), .d (.v (.int .i64 0)), .d (.v (.int .i64 0)), .d (.v (.string ⟨#[]⟩)), .d (.v (.slice none 0 0)), .d (.v (.slice none 0 0))] []),
su (.store 6 (.t 6) (.t 21)),
su (.store 23 (.t 7) (.t 22)),
sq 8 (.mv (kI 7))])
 .ret)
 (.seq (.sem (.reg [sq 24 (.mv (.t 2)),
sq 25 (.bin .neq (.t 24) (kI 0)),
sq 26 (.mv (.t 25)),
⟨(some 27), (some (26, true)), .mv (.t 2), [], (.new [])⟩,
⟨(some 28), (some (26, true)), .fieldA 0 (.t 9), [], (.new [])⟩,
⟨(some 29), (some (26, true)), .fieldA 4 (.t 28), [], (.new [])⟩,
⟨(some 30), (some (26, true)), .load none (.t 29), [], (.new [])⟩,
⟨(some 31), (some (26, true)), .bin .neq (.t 27) (.t 30), [], (.new [])⟩,
sq 32 (.pick (.t 26) (.t 31) (kB false)),
sq 23 (.mv (.t 32))]))
 (.cond (.t 23)
 (.seq (.reg [sq 33 (.load (some 6) (.t 3)),
sq 34 (.call 32 [(.t 33)]),
sq 35 (.build [.d (.v (.string ⟨#[]⟩)), .d (.v (.string ⟨#[]⟩)), .d (.v (.string ⟨#[]⟩)), .d (.v (.int .i64 0)), .d (.v (.int .i64 0)), .d (.v (.int .i64 0)), .d (.v (.int .i64 0)), .d (.v (.bool false)), .d (.v (.int .i64 0)), .d (.v (.slice none 0 0)), .d (.v (.slice none 0 0)), .d (.v (.slice none 0 0)), .d (.v (.slice none 0 0)), .d (.v (.int .i64 0)), .d (.v (.int .i64 0)), .d (.v (.string ⟨#[]⟩)), .d (.v (.slice none 0 0)), .d (.v (.slice none 0 0)), .d (.v (.int .i64 0)), .d (.v (.int .i64 0)), .d (.v (.string ⟨#[]⟩)), .d (.v (.slice none 0 0)), .d (.v (.slice none 0 0))] []),
su (.store 6 (.t 6) (.t 34)),
su (.store 23 (.t 7) (.t 35)),
sq 8 (.mv (kI 9))])
 .ret)
 (.seq (.reg [sq 37 (.fieldA 0 (.t 3)),
sq 38 (.load none (.t 37)),
sq 39 (.bin .geq (.t 38) (kI 1000000000000000)),
sq 36 (.mv (.t 39))])
 (.cond (.t 36)
 (.seq (.reg [sq 40 (.load (some 6) (.t 3)),
sq 41 (.call 32 [(.t 40)]),
sq 42 (.build [.d (.v (.string ⟨#[]⟩)), .d (.v (.string ⟨#[]⟩)), .d (.v (.string ⟨#[]⟩)), .d (.v (.int .i64 0)), .d (.v (.int .i64 0)), .d (.v (.int .i64 0)), .d (.v (.int .i64 0)), .d (.v (.bool false)), .d (.v (.int .i64 0)), .d (.v (.slice none 0 0)), .d (.v (.slice none 0 0)), .d (.v (.slice none 0 0)), .d (.v (.slice none 0 0)), .d (.v (.int .i64 0)), .d (.v (.int .i64 0)), .d (.v (.string ⟨#[]⟩)), .d (.v (.slice none 0 0)), .d (.v (.slice none 0 0)), .d (.v (.int .i64 0)), .d (.v (.int .i64 0)), .d (.v (.string ⟨#[]⟩)), .d (.v (.slice none 0 0)), .d (.v (.slice none 0 0))] []),
su (.store 6 (.t 6) (.t 41)),
su (.store 23 (.t 7) (.t 42)),
sq 8 (.mv (kI 15))])
 .ret)
 .skip)))))))
 (.seq (.sem (.reg [sq 43 (.fieldA 0 (.t 3)),
sq 44 (.load none (.t 43)),
sq 45 (.bin .add (.t 44) (kI 1)),
sq 46 (.fieldA 0 (.t 9)),
sq 47 (.fieldA 4 (.t 46)),
⟨none, none, .store 1 (.t 47) (.t 45), [], (.lone [3, 43, 9, 46])⟩]))
 (.seq (.regd [sq 48 (.load (some 6) (.t 3)),
sq 49 (.load (some 23) (.t 9)),
⟨(some 50), none, .call 36 [(.t 48), (kI 2), (.t 49)], [0, 1], (.new [0, 1])⟩,
sq 51 (.load (some 23) (.t 9)),
⟨none, none, .store 6 (.t 6) (.t 50), [0, 1, 2], (.lone [9])⟩,
⟨none, none, .store 23 (.t 7) (.t 51), [0, 1, 2, 3, 4], (.lone [])⟩,
sd 8 (.mv (kI 0)) [0, 1, 2, 3, 4, 5]])
 .ret)))))⟩
theorem a27_ok : afn Try.prog 27 = some a27.er := by kernel_rfl
theorem F27_ok {x0 : TStore} {x1 : ByteArray} {x2 : Int} {r : Int × Int × (List Object) × (List Object) × (List Change) × Object × Int} (h : F27 x0 x1 x2 = some r) : CallD Try.prog 27 [.agg [.d (.v (.int .i64 x0.Rev)), .d (.v (.int .i64 x0.Floor)), .d (.v (.int .i64 x0.NextUid)), .d (.sl (x0.Base.map eObject)), .d (.sl (x0.Objects.map eObject)), .d (.sl (x0.History.map eChange))], .c (.d (.v (.string x1))), .c (.d (.v (.int .i64 x2)))] [] (tupV [.agg [.d (.v (.int .i64 r.1)), .d (.v (.int .i64 r.2.1)), .d (.v (.int .i64 x0.NextUid)), .own 0 0 0 (r.2.2.1.length) none, .own 1 0 0 (r.2.2.2.1.length) none, .own 2 0 0 (r.2.2.2.2.1.length) none], .agg [.d (.v (.string ((r.2.2.2.2.2.1).Meta.Kind))), .d (.v (.string ((r.2.2.2.2.2.1).Meta.Namespace))), .d (.v (.string ((r.2.2.2.2.2.1).Meta.Name))), .d (.v (.int .i64 ((r.2.2.2.2.2.1).Meta.Uid))), .d (.v (.int .i64 ((r.2.2.2.2.2.1).Meta.Version))), .d (.v (.int .i64 ((r.2.2.2.2.2.1).Meta.Generation))), .d (.v (.int .i64 ((r.2.2.2.2.2.1).Meta.Created))), .d (.v (.bool ((r.2.2.2.2.2.1).Meta.Deleting))), .d (.v (.int .i64 ((r.2.2.2.2.2.1).Meta.DeleteAt))), .d (.sl (((r.2.2.2.2.2.1).Meta.Labels).map eLabel)), .d (.sl (((r.2.2.2.2.2.1).Meta.Owners).map eOwner)), .d (.sl (((r.2.2.2.2.2.1).Meta.Finalizers).map eS)), .d (.sl (((r.2.2.2.2.2.1).Meta.Managers).map eManager)), .d (.v (.int .i64 ((r.2.2.2.2.2.1).Spec.Kind))), .d (.v (.int .i64 ((r.2.2.2.2.2.1).Spec.N))), .d (.v (.string ((r.2.2.2.2.2.1).Spec.S))), .d (.sl (((r.2.2.2.2.2.1).Spec.List_).map eTValue)), .d (.sl (((r.2.2.2.2.2.1).Spec.Fields).map eTField)), .d (.v (.int .i64 ((r.2.2.2.2.2.1).Status.Kind))), .d (.v (.int .i64 ((r.2.2.2.2.2.1).Status.N))), .d (.v (.string ((r.2.2.2.2.2.1).Status.S))), .d (.sl (((r.2.2.2.2.2.1).Status.List_).map eTValue)), .d (.sl (((r.2.2.2.2.2.1).Status.Fields).map eTField))], .c (.d (.v (.int .i64 r.2.2.2.2.2.2)))]) [some (.arr 0 23 (r.2.2.1.map eObject)), some (.arr 0 23 (r.2.2.2.1.map eObject)), some (.arr 0 25 (r.2.2.2.2.1.map eChange))] := by
 refine callS a27_ok (by simp [a27]) ?_
 rw [F27] at h
 simp only [a27, VW.down, Nat.reduceEqDiff, reduceCtorEq, Nat.reduceAdd, Nat.reduceLeDiff, Nat.reduceLT, Nat.reduceBEq, Nat.reduceSub, EE.down]
 obtain ⟨t1, ht1, h⟩ := bi h
 refine cN [] (F21_ok ht1) trivial ?_
 refine ww ?_
 refine condBh h (fun c2 h => ?_) (fun c2 h => ?_)
 ·refine ww ?_
  obtain ⟨t3, ht3, h⟩ := bi h
  refine cN [] (F32_ok ht3) trivial ?_
  refine ww ?_
  obtain rfl := Option.some.inj h
  exact eF [some 8, some 9, some 10]
 ·refine ww ?_
  obtain ⟨o4, ho, h⟩ := bi h
  refine cutS (fun s => s = ⟨[(3, .one (.c (.pt 0 0))), (6, .one (.c (.pt 1 0))), (7, .one (.c (.pt 2 0))), (9, .one (.c (.pt 3 0))), (23, .one (.c (.d (.v (.bool o4)))))], [some (.box [.d (.v (.int .i64 x0.Rev)), .d (.v (.int .i64 x0.Floor)), .d (.v (.int .i64 x0.NextUid)), .d (.sl (x0.Base.map eObject)), .d (.sl (x0.Objects.map eObject)), .d (.sl (x0.History.map eChange))]), some (.box [.d (.v (.int .i64 0)), .d (.v (.int .i64 0)), .d (.v (.int .i64 0)), .d (.v (.slice none 0 0)), .d (.v (.slice none 0 0)), .d (.v (.slice none 0 0))]), some (.box [.d (.v (.string ((⟨#[]⟩ : ByteArray)))), .d (.v (.string ((⟨#[]⟩ : ByteArray)))), .d (.v (.string ((⟨#[]⟩ : ByteArray)))), .d (.v (.int .i64 0)), .d (.v (.int .i64 0)), .d (.v (.int .i64 0)), .d (.v (.int .i64 0)), .d (.v (.bool false)), .d (.v (.int .i64 0)), .d (.v (.slice none 0 0)), .d (.v (.slice none 0 0)), .d (.v (.slice none 0 0)), .d (.v (.slice none 0 0)), .d (.v (.int .i64 0)), .d (.v (.int .i64 0)), .d (.v (.string ((⟨#[]⟩ : ByteArray)))), .d (.v (.slice none 0 0)), .d (.v (.slice none 0 0)), .d (.v (.int .i64 0)), .d (.v (.int .i64 0)), .d (.v (.string ((⟨#[]⟩ : ByteArray)))), .d (.v (.slice none 0 0)), .d (.v (.slice none 0 0))]), some (.box [.d (.v (.string t1.1)), .d (.v (.string t1.2.1)), .d (.v (.string t1.2.2.1)), .d (.v (.int .i64 t1.2.2.2.1)), .d (.v (.int .i64 t1.2.2.2.2.1)), .d (.v (.int .i64 t1.2.2.2.2.2.1)), .d (.v (.int .i64 t1.2.2.2.2.2.2.1)), .d (.v (.bool t1.2.2.2.2.2.2.2.1)), .d (.v (.int .i64 t1.2.2.2.2.2.2.2.2.1)), .own 4 0 0 (t1.2.2.2.2.2.2.2.2.2.1.length) none, .own 5 0 0 (t1.2.2.2.2.2.2.2.2.2.2.1.length) none, .own 6 0 0 (t1.2.2.2.2.2.2.2.2.2.2.2.1.length) none, .own 7 0 0 (t1.2.2.2.2.2.2.2.2.2.2.2.2.1.length) none, .d (.v (.int .i64 t1.2.2.2.2.2.2.2.2.2.2.2.2.2.1)), .d (.v (.int .i64 t1.2.2.2.2.2.2.2.2.2.2.2.2.2.2.1)), .d (.v (.string t1.2.2.2.2.2.2.2.2.2.2.2.2.2.2.2.1)), .d (.sl (t1.2.2.2.2.2.2.2.2.2.2.2.2.2.2.2.2.1.map eTValue)), .d (.sl (t1.2.2.2.2.2.2.2.2.2.2.2.2.2.2.2.2.2.1.map eTField)), .d (.v (.int .i64 t1.2.2.2.2.2.2.2.2.2.2.2.2.2.2.2.2.2.2.1)), .d (.v (.int .i64 t1.2.2.2.2.2.2.2.2.2.2.2.2.2.2.2.2.2.2.2.1)), .d (.v (.string t1.2.2.2.2.2.2.2.2.2.2.2.2.2.2.2.2.2.2.2.2.1)), .d (.sl (t1.2.2.2.2.2.2.2.2.2.2.2.2.2.2.2.2.2.2.2.2.2.1.map eTValue)), .d (.sl (t1.2.2.2.2.2.2.2.2.2.2.2.2.2.2.2.2.2.2.2.2.2.2.1.map eTField))]), some (.arr 0 2 (t1.2.2.2.2.2.2.2.2.2.1.map eLabel)), some (.arr 0 5 (t1.2.2.2.2.2.2.2.2.2.2.1.map eOwner)), some (.arr 0 1 (t1.2.2.2.2.2.2.2.2.2.2.2.1.map eS)), some (.arr 0 2 (t1.2.2.2.2.2.2.2.2.2.2.2.2.1.map eManager))]⟩) ?_ ?_
  ·have h := ho
   clear ho
   refine ww ?_
   refine guardSh h (fun g5 h => ?_) (fun g5 h => ?_)
   ·refine ww ?_
    obtain rfl := Option.some.inj h
    exact eM [some 0, some 1, some 2, some 7, some 3, some 4, some 5, some 6] rfl
   ·refine ww ?_
    obtain rfl := Option.some.inj h
    exact eM [some 0, some 1, some 2, some 7, some 3, some 4, some 5, some 6] rfl
  ·rintro _ rfl
   clear ho
   refine ww ?_
   refine condBh h (fun c6 h => ?_) (fun c6 h => ?_)
   ·refine ww ?_
    obtain ⟨t7, ht7, h⟩ := bi h
    refine cN [] (F32_ok ht7) trivial ?_
    refine ww ?_
    obtain rfl := Option.some.inj h
    exact eF [some 8, some 9, some 10]
   ·refine ww ?_
    refine condSh h (fun c8 h => ?_) (fun c8 h => ?_)
    ·refine ww ?_
     obtain ⟨t9, ht9, h⟩ := bi h
     refine cN [] (F32_ok ht9) trivial ?_
     refine ww ?_
     obtain rfl := Option.some.inj h
     exact eF [some 8, some 9, some 10]
    ·refine ww ?_
     obtain ⟨o10, ho, h⟩ := bi h
     refine cutS (fun s => s = ⟨[(3, .one (.c (.pt 0 0))), (6, .one (.c (.pt 1 0))), (7, .one (.c (.pt 2 0))), (9, .one (.c (.pt 3 0)))], [some (.box [.d (.v (.int .i64 x0.Rev)), .d (.v (.int .i64 x0.Floor)), .d (.v (.int .i64 x0.NextUid)), .d (.sl (x0.Base.map eObject)), .d (.sl (x0.Objects.map eObject)), .d (.sl (x0.History.map eChange))]), some (.box [.d (.v (.int .i64 0)), .d (.v (.int .i64 0)), .d (.v (.int .i64 0)), .d (.v (.slice none 0 0)), .d (.v (.slice none 0 0)), .d (.v (.slice none 0 0))]), some (.box [.d (.v (.string ((⟨#[]⟩ : ByteArray)))), .d (.v (.string ((⟨#[]⟩ : ByteArray)))), .d (.v (.string ((⟨#[]⟩ : ByteArray)))), .d (.v (.int .i64 0)), .d (.v (.int .i64 0)), .d (.v (.int .i64 0)), .d (.v (.int .i64 0)), .d (.v (.bool false)), .d (.v (.int .i64 0)), .d (.v (.slice none 0 0)), .d (.v (.slice none 0 0)), .d (.v (.slice none 0 0)), .d (.v (.slice none 0 0)), .d (.v (.int .i64 0)), .d (.v (.int .i64 0)), .d (.v (.string ((⟨#[]⟩ : ByteArray)))), .d (.v (.slice none 0 0)), .d (.v (.slice none 0 0)), .d (.v (.int .i64 0)), .d (.v (.int .i64 0)), .d (.v (.string ((⟨#[]⟩ : ByteArray)))), .d (.v (.slice none 0 0)), .d (.v (.slice none 0 0))]), some (.box [.d (.v (.string t1.1)), .d (.v (.string t1.2.1)), .d (.v (.string t1.2.2.1)), .d (.v (.int .i64 t1.2.2.2.1)), .d (.v (.int .i64 ((IntKind.i64.wrap (x0.Rev + 1))))), .d (.v (.int .i64 t1.2.2.2.2.2.1)), .d (.v (.int .i64 t1.2.2.2.2.2.2.1)), .d (.v (.bool t1.2.2.2.2.2.2.2.1)), .d (.v (.int .i64 t1.2.2.2.2.2.2.2.2.1)), .d (.sl (t1.2.2.2.2.2.2.2.2.2.1.map eLabel)), .d (.sl (t1.2.2.2.2.2.2.2.2.2.2.1.map eOwner)), .d (.sl (t1.2.2.2.2.2.2.2.2.2.2.2.1.map eS)), .d (.sl (t1.2.2.2.2.2.2.2.2.2.2.2.2.1.map eManager)), .d (.v (.int .i64 t1.2.2.2.2.2.2.2.2.2.2.2.2.2.1)), .d (.v (.int .i64 t1.2.2.2.2.2.2.2.2.2.2.2.2.2.2.1)), .d (.v (.string t1.2.2.2.2.2.2.2.2.2.2.2.2.2.2.2.1)), .d (.sl (t1.2.2.2.2.2.2.2.2.2.2.2.2.2.2.2.2.1.map eTValue)), .d (.sl (t1.2.2.2.2.2.2.2.2.2.2.2.2.2.2.2.2.2.1.map eTField)), .d (.v (.int .i64 t1.2.2.2.2.2.2.2.2.2.2.2.2.2.2.2.2.2.2.1)), .d (.v (.int .i64 t1.2.2.2.2.2.2.2.2.2.2.2.2.2.2.2.2.2.2.2.1)), .d (.v (.string t1.2.2.2.2.2.2.2.2.2.2.2.2.2.2.2.2.2.2.2.2.1)), .d (.sl (t1.2.2.2.2.2.2.2.2.2.2.2.2.2.2.2.2.2.2.2.2.2.1.map eTValue)), .d (.sl (t1.2.2.2.2.2.2.2.2.2.2.2.2.2.2.2.2.2.2.2.2.2.2.1.map eTField))])]⟩) ?_ ?_
     ·have h := ho
      clear ho
      refine ww ?_
      obtain rfl := Option.some.inj h
      exact eM [some 0, some 1, some 2, some 3] rfl
     ·rintro _ rfl
      clear ho
      refine ww ?_
      obtain ⟨t11, ht11, h⟩ := bi h
      refine cN [] (F36_ok ht11) trivial ?_
      refine ww ?_
      refine kD_new (by simp [wrs, allW, hset]) ?_
      refine ww ?_
      obtain rfl := Option.some.inj h
      exact eF [some 4, some 5, some 6]

/- orchestrator/store.Compact -/
def F19 (x0 : TStore) (x1 : Int) : Option (Int × (List Object) × (List Object) × (List Change) × Int) := (((if x1 < x0.Floor then some true else some (decide (x0.Rev < x1)))).bind fun o1 => (if o1 = true then (F32 x0).bind fun t4 => some ((x0.Floor, t4.1, t4.2.1, t4.2.2, 5)) else (F49 x0 x1).bind fun t5 => (F32 ((⟨x0.Rev, x1, x0.NextUid, t5.1, x0.Objects, t5.2⟩ : TStore))).bind fun t6 => some ((x1, t6.1, t6.2.1, t6.2.2, 0))))
def a19 : AFn := ⟨22, [(.cell 4 (some 6)), (.tmp 5)],
 (.seq (.reg [sq 2 (.box (.t 0)),
sq 4 (.zbox [.d (.v (.int .i64 0)), .d (.v (.int .i64 0)), .d (.v (.int .i64 0)), .d (.v (.slice none 0 0)), .d (.v (.slice none 0 0)), .d (.v (.slice none 0 0))]),
sq 5 (.mv (kI 0))])
 (.seq (.seq (.sem (.reg [sq 6 (.mv (.t 1)),
sq 7 (.fieldA 1 (.t 2)),
sq 8 (.load none (.t 7)),
sq 9 (.bin .lss (.t 6) (.t 8)),
sq 10 (.mv (.t 9)),
⟨(some 11), (some (10, false)), .mv (.t 1), [], (.new [])⟩,
⟨(some 12), (some (10, false)), .fieldA 0 (.t 2), [], (.new [])⟩,
⟨(some 13), (some (10, false)), .load none (.t 12), [], (.new [])⟩,
⟨(some 14), (some (10, false)), .bin .gtr (.t 11) (.t 13), [], (.new [])⟩,
⟨(some 15), none, .pick (.t 10) (kB true) (.t 14), [], (.lone [2, 7, 2, 12])⟩]))
 (.cond (.t 15)
 (.seq (.reg [sq 16 (.load (some 6) (.t 2)),
sq 17 (.call 32 [(.t 16)]),
su (.store 6 (.t 4) (.t 17)),
sq 5 (.mv (kI 5))])
 .ret)
 .skip))
 (.seq (.reg [sq 18 (.load (some 6) (.t 2)),
sq 19 (.mv (.t 1)),
sq 20 (.call 49 [(.t 18), (.t 19)]),
sq 21 (.call 32 [(.t 20)]),
su (.store 6 (.t 4) (.t 21)),
sq 5 (.mv (kI 0))])
 .ret)))⟩
theorem a19_ok : afn Try.prog 19 = some a19.er := by kernel_rfl
theorem F19_ok {x0 : TStore} {x1 : Int} {r : Int × (List Object) × (List Object) × (List Change) × Int} (h : F19 x0 x1 = some r) : CallD Try.prog 19 [.agg [.d (.v (.int .i64 x0.Rev)), .d (.v (.int .i64 x0.Floor)), .d (.v (.int .i64 x0.NextUid)), .d (.sl (x0.Base.map eObject)), .d (.sl (x0.Objects.map eObject)), .d (.sl (x0.History.map eChange))], .c (.d (.v (.int .i64 x1)))] [] (tupV [.agg [.d (.v (.int .i64 x0.Rev)), .d (.v (.int .i64 r.1)), .d (.v (.int .i64 x0.NextUid)), .own 0 0 0 (r.2.1.length) none, .own 1 0 0 (r.2.2.1.length) none, .own 2 0 0 (r.2.2.2.1.length) none], .c (.d (.v (.int .i64 r.2.2.2.2)))]) [some (.arr 0 23 (r.2.1.map eObject)), some (.arr 0 23 (r.2.2.1.map eObject)), some (.arr 0 25 (r.2.2.2.1.map eChange))] := by
 refine callS a19_ok (by simp [a19]) ?_
 rw [F19] at h
 simp only [a19, VW.down, Nat.reduceEqDiff, reduceCtorEq, Nat.reduceAdd, Nat.reduceLeDiff, Nat.reduceLT, Nat.reduceBEq, Nat.reduceSub, EE.down]
 obtain ⟨o1, ho, h⟩ := bi h
 refine cutS (fun s => s = ⟨[(1, .one (.c (.d (.v (.int .i64 x1))))), (2, .one (.c (.pt 0 0))), (4, .one (.c (.pt 1 0))), (15, .one (.c (.d (.v (.bool o1)))))], [some (.box [.d (.v (.int .i64 x0.Rev)), .d (.v (.int .i64 x0.Floor)), .d (.v (.int .i64 x0.NextUid)), .d (.sl (x0.Base.map eObject)), .d (.sl (x0.Objects.map eObject)), .d (.sl (x0.History.map eChange))]), some (.box [.d (.v (.int .i64 0)), .d (.v (.int .i64 0)), .d (.v (.int .i64 0)), .d (.v (.slice none 0 0)), .d (.v (.slice none 0 0)), .d (.v (.slice none 0 0))])]⟩) ?_ ?_
 ·have h := ho
  clear ho
  refine ww ?_
  refine guardSh h (fun g2 h => ?_) (fun g2 h => ?_)
  ·refine ww ?_
   obtain rfl := Option.some.inj h
   exact eM [some 0, some 1] rfl
  ·refine ww ?_
   obtain rfl := Option.some.inj h
   exact eM [some 0, some 1] rfl
 ·rintro _ rfl
  clear ho
  refine ww ?_
  refine condBh h (fun c3 h => ?_) (fun c3 h => ?_)
  ·refine ww ?_
   obtain ⟨t4, ht4, h⟩ := bi h
   refine cN [] (F32_ok ht4) trivial ?_
   refine ww ?_
   obtain rfl := Option.some.inj h
   exact eF [some 2, some 3, some 4]
  ·refine ww ?_
   obtain ⟨t5, ht5, h⟩ := bi h
   refine cN [] (F49_ok ht5) trivial ?_
   refine ww ?_
   obtain ⟨t6, ht6, h⟩ := bi h
   refine callX_gen (as1 := [.agg [.d (.v (.int .i64 x0.Rev)), .d (.v (.int .i64 x1)), .d (.v (.int .i64 x0.NextUid)), .d (.sl (t5.1.map eObject)), .d (.sl (x0.Objects.map eObject)), .d (.sl (t5.2.map eChange))]]) [(2, .arr 1 23 [])] [some 0, some 1, none] [] (F32_ok ht6) ⟨?_, rfl, ?_⟩ ?_ ?_ ?_ ?_ ?_ ?_ ?_ ?_
   · simp only [ZZ.down, Nat.reduceEqDiff, reduceCtorEq, Nat.reduceAdd, Nat.reduceLeDiff, Nat.reduceLT, Nat.reduceBNe, EE.down]
   · simp only [ZZ.down, Nat.reduceEqDiff, reduceCtorEq, Nat.reduceAdd, Nat.reduceLeDiff, Nat.reduceLT, Nat.reduceBNe, EE.down]
   · simp only [ZZ.down, Nat.reduceEqDiff, reduceCtorEq, Nat.reduceAdd, Nat.reduceLeDiff, Nat.reduceLT, Nat.reduceBNe, EE.down]
   · rfl
   · rfl
   · simp [liveAll, A1.live, C.live]
   · rfl
   · decide
   · exact trivial
   refine ww ?_
   obtain rfl := Option.some.inj h
   exact eF [some 3, some 4, some 5]

/- orchestrator/orchestratorlaw14.awake -/
def F8  : Option (Bool) := (F9).bind fun t1 => (F26 ((⟨#[97]⟩ : ByteArray)) 1).bind fun t2 => (F25 ((⟨0, 0, 1, [], [], []⟩ : TStore)) ((⟨(⟨(⟨#[80, 111, 100]⟩ : ByteArray), (⟨#[110]⟩ : ByteArray), ((⟨#[97]⟩ : ByteArray)), 0, 0, 0, 0, false, 0, [], [], [], []⟩ : Meta), (⟨2, (1 : Int), (⟨#[]⟩ : ByteArray), [], []⟩ : TValue), (⟨0, 0, (⟨#[]⟩ : ByteArray), [], []⟩ : TValue)⟩ : Object)) 5).bind fun t3 => (((F12 ((⟨t3.1, t3.2.1, t3.2.2.1, t3.2.2.2.1, t3.2.2.2.2.1, t3.2.2.2.2.2.1⟩ : TStore)) ((⟨(⟨(t3.2.2.2.2.2.2.1).Meta.Kind, (t3.2.2.2.2.2.2.1).Meta.Namespace, (t3.2.2.2.2.2.2.1).Meta.Name, (t3.2.2.2.2.2.2.1).Meta.Uid, (t3.2.2.2.2.2.2.1).Meta.Version, (t3.2.2.2.2.2.2.1).Meta.Generation, (t3.2.2.2.2.2.2.1).Meta.Created, (t3.2.2.2.2.2.2.1).Meta.Deleting, (t3.2.2.2.2.2.2.1).Meta.DeleteAt, (t3.2.2.2.2.2.2.1).Meta.Labels, (t3.2.2.2.2.2.2.1).Meta.Owners, (t3.2.2.2.2.2.2.1).Meta.Finalizers, (t3.2.2.2.2.2.2.1).Meta.Managers⟩ : Meta), (⟨2, 2, (⟨#[]⟩ : ByteArray), [], []⟩ : TValue), (⟨(t3.2.2.2.2.2.2.1).Status.Kind, (t3.2.2.2.2.2.2.1).Status.N, (t3.2.2.2.2.2.2.1).Status.S, (t3.2.2.2.2.2.2.1).Status.List_, (t3.2.2.2.2.2.2.1).Status.Fields⟩ : TValue)⟩ : Object))).bind fun t5 => some ((t5.1, t5.2.1, t5.2.2.1, t5.2.2.2.1, t5.2.2.2.2.1, (⟨(⟨t5.2.2.2.2.2.1, t5.2.2.2.2.2.2.1, t5.2.2.2.2.2.2.2.1, t5.2.2.2.2.2.2.2.2.1, t5.2.2.2.2.2.2.2.2.2.1, t5.2.2.2.2.2.2.2.2.2.2.1, t5.2.2.2.2.2.2.2.2.2.2.2.1, t5.2.2.2.2.2.2.2.2.2.2.2.2.1, t5.2.2.2.2.2.2.2.2.2.2.2.2.2.1, t5.2.2.2.2.2.2.2.2.2.2.2.2.2.2.1, t5.2.2.2.2.2.2.2.2.2.2.2.2.2.2.2.1, t5.2.2.2.2.2.2.2.2.2.2.2.2.2.2.2.2.1, t5.2.2.2.2.2.2.2.2.2.2.2.2.2.2.2.2.2.1⟩ : Meta), (⟨t5.2.2.2.2.2.2.2.2.2.2.2.2.2.2.2.2.2.2.1, t5.2.2.2.2.2.2.2.2.2.2.2.2.2.2.2.2.2.2.2.1, t5.2.2.2.2.2.2.2.2.2.2.2.2.2.2.2.2.2.2.2.2.1, t5.2.2.2.2.2.2.2.2.2.2.2.2.2.2.2.2.2.2.2.2.2.1, t5.2.2.2.2.2.2.2.2.2.2.2.2.2.2.2.2.2.2.2.2.2.2.1⟩ : TValue), (⟨t5.2.2.2.2.2.2.2.2.2.2.2.2.2.2.2.2.2.2.2.2.2.2.2.1, t5.2.2.2.2.2.2.2.2.2.2.2.2.2.2.2.2.2.2.2.2.2.2.2.2.1, t5.2.2.2.2.2.2.2.2.2.2.2.2.2.2.2.2.2.2.2.2.2.2.2.2.2.1, t5.2.2.2.2.2.2.2.2.2.2.2.2.2.2.2.2.2.2.2.2.2.2.2.2.2.2.1, t5.2.2.2.2.2.2.2.2.2.2.2.2.2.2.2.2.2.2.2.2.2.2.2.2.2.2.2.1⟩ : TValue)⟩ : Object), t5.2.2.2.2.2.2.2.2.2.2.2.2.2.2.2.2.2.2.2.2.2.2.2.2.2.2.2.2))).bind fun o4 => (F12 ((⟨o4.1, o4.2.1, t3.2.2.1, o4.2.2.1, o4.2.2.2.1, o4.2.2.2.2.1⟩ : TStore)) ((⟨(⟨(t3.2.2.2.2.2.2.1).Meta.Kind, (t3.2.2.2.2.2.2.1).Meta.Namespace, (t3.2.2.2.2.2.2.1).Meta.Name, (t3.2.2.2.2.2.2.1).Meta.Uid, (t3.2.2.2.2.2.2.1).Meta.Version, (t3.2.2.2.2.2.2.1).Meta.Generation, (t3.2.2.2.2.2.2.1).Meta.Created, (t3.2.2.2.2.2.2.1).Meta.Deleting, (t3.2.2.2.2.2.2.1).Meta.DeleteAt, (t3.2.2.2.2.2.2.1).Meta.Labels, (t3.2.2.2.2.2.2.1).Meta.Owners, (t3.2.2.2.2.2.2.1).Meta.Finalizers, (t3.2.2.2.2.2.2.1).Meta.Managers⟩ : Meta), (⟨2, 2, (⟨#[]⟩ : ByteArray), [], []⟩ : TValue), (⟨(t3.2.2.2.2.2.2.1).Status.Kind, (t3.2.2.2.2.2.2.1).Status.N, (t3.2.2.2.2.2.2.1).Status.S, (t3.2.2.2.2.2.2.1).Status.List_, (t3.2.2.2.2.2.2.1).Status.Fields⟩ : TValue)⟩ : Object))).bind fun t6 => (F16 ((⟨o4.1, o4.2.1, t3.2.2.1, o4.2.2.1, o4.2.2.2.1, o4.2.2.2.2.1⟩ : TStore)) 1).bind fun t7 => (F27 ((⟨o4.1, o4.2.1, t3.2.2.1, o4.2.2.1, o4.2.2.2.1, o4.2.2.2.2.1⟩ : TStore)) ((⟨#[80, 111, 100, 47, 110, 47, 97]⟩ : ByteArray)) 0).bind fun t8 => (((F19 ((⟨t8.1, t8.2.1, t3.2.2.1, t8.2.2.1, t8.2.2.2.1, t8.2.2.2.2.1⟩ : TStore)) 2).bind fun t10 => some ((t10.1, t10.2.1, t10.2.2.1, t10.2.2.2.1, t10.2.2.2.2))).bind fun o9 => (F16 ((⟨t8.1, o9.1, t3.2.2.1, o9.2.1, o9.2.2.1, o9.2.2.2.1⟩ : TStore)) 1).bind fun t11 => (((if ¬ (t3.2.2.2.2.2.2.2 = 0) then some true else (if ¬ (o4.2.2.2.2.2.2 = 0) then some true else (if ¬ (t6.2.2.2.2.2.2.2.2.2.2.2.2.2.2.2.2.2.2.2.2.2.2.2.2.2.2.2.2 = 9) then some true else (if ¬ (t7.2 = 0) then some true else (if ¬ (t8.2.2.2.2.2.2 = 0) then some true else (if ¬ (o9.2.2.2.2 = 0) then some true else some (decide (¬ (t11.2 = 10)))))))))).bind fun o12 => (if o12 = true then some false else (((if (t3.2.2.2.2.2.2.1).Meta.Uid = 1 then (if (t3.2.2.2.2.2.2.1).Meta.Version = 1 then (if (t3.2.2.2.2.2.2.1).Meta.Generation = 1 then (if (t3.2.2.2.2.2.2.1).Meta.Created = 5 then (if (o4.2.2.2.2.2.1).Meta.Version = 2 then (if (o4.2.2.2.2.2.1).Meta.Generation = 2 then (if (t7.1.length : Int) = 1 then (rdI t7.1 0).bind fun y28 => (if y28.Spec.N = 1 then (if (t8.2.2.2.2.2.1).Meta.Version = 3 then (if t8.1 = 3 then (if (o9.2.2.1.length : Int) = 0 then some (decide ((o9.2.2.2.1.length : Int) = 1)) else some false) else some false) else some false) else some false) else some false) else some false) else some false) else some false) else some false) else some false) else some false)).bind fun o20 => some o20)))))
def a8 : AFn := ⟨158, [(.tmp 0)],
 (.seq (.reg [sq 0 (.mv (kB false))])
 (.seq (.reg [sq 18 (.call 9 []),
sq 19 (.call 26 [(kS ⟨#[97]⟩), (kI 1)]),
sq 20 (.call 25 [(.t 18), (.t 19), (kI 5)]),
sq 17 (.mv (.t 20)),
sq 21 (.ext (.t 17) 0),
sq 22 (.ext (.t 17) 1),
sq 23 (.ext (.t 17) 2),
sq 1 (.zbox [.d (.v (.int .i64 0)), .d (.v (.int .i64 0)), .d (.v (.int .i64 0)), .d (.v (.slice none 0 0)), .d (.v (.slice none 0 0)), .d (.v (.slice none 0 0))]),
sq 2 (.zbox [.d (.v (.string ⟨#[]⟩)), .d (.v (.string ⟨#[]⟩)), .d (.v (.string ⟨#[]⟩)), .d (.v (.int .i64 0)), .d (.v (.int .i64 0)), .d (.v (.int .i64 0)), .d (.v (.int .i64 0)), .d (.v (.bool false)), .d (.v (.int .i64 0)), .d (.v (.slice none 0 0)), .d (.v (.slice none 0 0)), .d (.v (.slice none 0 0)), .d (.v (.slice none 0 0)), .d (.v (.int .i64 0)), .d (.v (.int .i64 0)), .d (.v (.string ⟨#[]⟩)), .d (.v (.slice none 0 0)), .d (.v (.slice none 0 0)), .d (.v (.int .i64 0)), .d (.v (.int .i64 0)), .d (.v (.string ⟨#[]⟩)), .d (.v (.slice none 0 0)), .d (.v (.slice none 0 0))]),
su (.store 6 (.t 1) (.t 21)),
su (.store 23 (.t 2) (.t 22)),
sq 3 (.mv (.t 23))])
 (.seq (.reg [sq 24 (.load (some 23) (.t 2)),
sq 4 (.zbox [.d (.v (.string ⟨#[]⟩)), .d (.v (.string ⟨#[]⟩)), .d (.v (.string ⟨#[]⟩)), .d (.v (.int .i64 0)), .d (.v (.int .i64 0)), .d (.v (.int .i64 0)), .d (.v (.int .i64 0)), .d (.v (.bool false)), .d (.v (.int .i64 0)), .d (.v (.slice none 0 0)), .d (.v (.slice none 0 0)), .d (.v (.slice none 0 0)), .d (.v (.slice none 0 0)), .d (.v (.int .i64 0)), .d (.v (.int .i64 0)), .d (.v (.string ⟨#[]⟩)), .d (.v (.slice none 0 0)), .d (.v (.slice none 0 0)), .d (.v (.int .i64 0)), .d (.v (.int .i64 0)), .d (.v (.string ⟨#[]⟩)), .d (.v (.slice none 0 0)), .d (.v (.slice none 0 0))]),
su (.store 23 (.t 4) (.t 24))])
 (.seq (.reg [sq 25 (.build [.d (.v (.int .i64 0)), .d (.v (.int .i64 0)), .d (.v (.string ⟨#[]⟩)), .d (.v (.slice none 0 0)), .d (.v (.slice none 0 0))] [(0, 1, (kI 2)), (1, 1, (kI 2))]),
sq 26 (.fieldA 13 (.t 4)),
su (.store 5 (.t 26) (.t 25))])
 (.seq (.sem (.reg [sq 28 (.load (some 6) (.t 1)),
sq 29 (.load (some 23) (.t 4)),
sq 30 (.call 12 [(.t 28), (.t 29)]),
sq 27 (.mv (.t 30)),
sq 31 (.ext (.t 27) 0),
sq 32 (.ext (.t 27) 1),
sq 33 (.ext (.t 27) 2),
sq 5 (.zbox [.d (.v (.string ⟨#[]⟩)), .d (.v (.string ⟨#[]⟩)), .d (.v (.string ⟨#[]⟩)), .d (.v (.int .i64 0)), .d (.v (.int .i64 0)), .d (.v (.int .i64 0)), .d (.v (.int .i64 0)), .d (.v (.bool false)), .d (.v (.int .i64 0)), .d (.v (.slice none 0 0)), .d (.v (.slice none 0 0)), .d (.v (.slice none 0 0)), .d (.v (.slice none 0 0)), .d (.v (.int .i64 0)), .d (.v (.int .i64 0)), .d (.v (.string ⟨#[]⟩)), .d (.v (.slice none 0 0)), .d (.v (.slice none 0 0)), .d (.v (.int .i64 0)), .d (.v (.int .i64 0)), .d (.v (.string ⟨#[]⟩)), .d (.v (.slice none 0 0)), .d (.v (.slice none 0 0))]),
su (.store 6 (.t 1) (.t 31)),
su (.store 23 (.t 5) (.t 32)),
sq 6 (.mv (.t 33))]))
 (.seq (.reg [sq 35 (.load (some 6) (.t 1)),
sq 36 (.load (some 23) (.t 4)),
sq 37 (.call 12 [(.t 35), (.t 36)]),
sq 34 (.mv (.t 37)),
sq 38 (.ext (.t 34) 0),
sq 39 (.ext (.t 34) 1),
sq 40 (.ext (.t 34) 2),
sq 7 (.zbox [.d (.v (.int .i64 0)), .d (.v (.int .i64 0)), .d (.v (.int .i64 0)), .d (.v (.slice none 0 0)), .d (.v (.slice none 0 0)), .d (.v (.slice none 0 0))]),
sq 8 (.zbox [.d (.v (.string ⟨#[]⟩)), .d (.v (.string ⟨#[]⟩)), .d (.v (.string ⟨#[]⟩)), .d (.v (.int .i64 0)), .d (.v (.int .i64 0)), .d (.v (.int .i64 0)), .d (.v (.int .i64 0)), .d (.v (.bool false)), .d (.v (.int .i64 0)), .d (.v (.slice none 0 0)), .d (.v (.slice none 0 0)), .d (.v (.slice none 0 0)), .d (.v (.slice none 0 0)), .d (.v (.int .i64 0)), .d (.v (.int .i64 0)), .d (.v (.string ⟨#[]⟩)), .d (.v (.slice none 0 0)), .d (.v (.slice none 0 0)), .d (.v (.int .i64 0)), .d (.v (.int .i64 0)), .d (.v (.string ⟨#[]⟩)), .d (.v (.slice none 0 0)), .d (.v (.slice none 0 0))]),
su (.store 6 (.t 7) (.t 38)),
su (.store 23 (.t 8) (.t 39)),
sq 9 (.mv (.t 40))])
 (.seq (.reg [sq 42 (.load (some 6) (.t 1)),
sq 43 (.call 16 [(.t 42), (kI 1)]),
sq 41 (.mv (.t 43)),
sq 44 (.ext (.t 41) 0),
sq 45 (.ext (.t 41) 1),
sq 10 (.mv (.t 44)),
sq 11 (.mv (.t 45))])
 (.seq (.reg [sq 47 (.load (some 6) (.t 1)),
sq 48 (.call 27 [(.t 47), (kS ⟨#[80, 111, 100, 47, 110, 47, 97]⟩), (kI 0)]),
sq 46 (.mv (.t 48)),
sq 49 (.ext (.t 46) 0),
sq 50 (.ext (.t 46) 1),
sq 51 (.ext (.t 46) 2),
sq 12 (.zbox [.d (.v (.string ⟨#[]⟩)), .d (.v (.string ⟨#[]⟩)), .d (.v (.string ⟨#[]⟩)), .d (.v (.int .i64 0)), .d (.v (.int .i64 0)), .d (.v (.int .i64 0)), .d (.v (.int .i64 0)), .d (.v (.bool false)), .d (.v (.int .i64 0)), .d (.v (.slice none 0 0)), .d (.v (.slice none 0 0)), .d (.v (.slice none 0 0)), .d (.v (.slice none 0 0)), .d (.v (.int .i64 0)), .d (.v (.int .i64 0)), .d (.v (.string ⟨#[]⟩)), .d (.v (.slice none 0 0)), .d (.v (.slice none 0 0)), .d (.v (.int .i64 0)), .d (.v (.int .i64 0)), .d (.v (.string ⟨#[]⟩)), .d (.v (.slice none 0 0)), .d (.v (.slice none 0 0))]),
su (.store 6 (.t 1) (.t 49)),
su (.store 23 (.t 12) (.t 50)),
sq 13 (.mv (.t 51))])
 (.seq (.sem (.reg [sq 53 (.load (some 6) (.t 1)),
sq 54 (.call 19 [(.t 53), (kI 2)]),
sq 52 (.mv (.t 54)),
sq 55 (.ext (.t 52) 0),
sq 56 (.ext (.t 52) 1),
su (.store 6 (.t 1) (.t 55)),
sq 14 (.mv (.t 56))]))
 (.seq (.reg [sq 58 (.load (some 6) (.t 1)),
sq 59 (.call 16 [(.t 58), (kI 1)]),
sq 57 (.mv (.t 59)),
sq 60 (.ext (.t 57) 0),
sq 61 (.ext (.t 57) 1),
sq 15 (.mv (.t 60)),
sq 16 (.mv (.t 61))])
 (.seq (.seq (.sem (.reg [sq 62 (.mv (.t 3)),
sq 63 (.bin .neq (.t 62) (kI 0)),
sq 64 (.mv (.t 63)),
⟨(some 65), (some (64, false)), .mv (.t 6), [], (.new [])⟩,
⟨(some 66), (some (64, false)), .bin .neq (.t 65) (kI 0), [], (.new [])⟩,
sq 67 (.pick (.t 64) (kB true) (.t 66)),
sq 68 (.mv (.t 67)),
⟨(some 69), (some (68, false)), .mv (.t 9), [], (.new [])⟩,
⟨(some 70), (some (68, false)), .bin .neq (.t 69) (kI 9), [], (.new [])⟩,
sq 71 (.pick (.t 68) (kB true) (.t 70)),
sq 72 (.mv (.t 71)),
⟨(some 73), (some (72, false)), .mv (.t 11), [], (.new [])⟩,
⟨(some 74), (some (72, false)), .bin .neq (.t 73) (kI 0), [], (.new [])⟩,
sq 75 (.pick (.t 72) (kB true) (.t 74)),
sq 76 (.mv (.t 75)),
⟨(some 77), (some (76, false)), .mv (.t 13), [], (.new [])⟩,
⟨(some 78), (some (76, false)), .bin .neq (.t 77) (kI 0), [], (.new [])⟩,
sq 79 (.pick (.t 76) (kB true) (.t 78)),
sq 80 (.mv (.t 79)),
⟨(some 81), (some (80, false)), .mv (.t 14), [], (.new [])⟩,
⟨(some 82), (some (80, false)), .bin .neq (.t 81) (kI 0), [], (.new [])⟩,
sq 83 (.pick (.t 80) (kB true) (.t 82)),
sq 84 (.mv (.t 83)),
⟨(some 85), (some (84, false)), .mv (.t 16), [], (.new [])⟩,
⟨(some 86), (some (84, false)), .bin .neq (.t 85) (kI 10), [], (.new [])⟩,
sq 87 (.pick (.t 84) (kB true) (.t 86))]))
 (.cond (.t 87)
 (.seq (.reg [sq 0 (.mv (kB false))])
 .ret)
 .skip))
 (.seq (.sem (.reg [sq 88 (.fieldA 0 (.t 2)),
sq 89 (.fieldA 3 (.t 88)),
sq 90 (.load none (.t 89)),
sq 91 (.bin .eql (.t 90) (kI 1)),
sq 92 (.mv (.t 91)),
⟨(some 93), (some (92, true)), .fieldA 0 (.t 2), [], (.new [])⟩,
⟨(some 94), (some (92, true)), .fieldA 4 (.t 93), [], (.new [])⟩,
⟨(some 95), (some (92, true)), .load none (.t 94), [], (.new [])⟩,
⟨(some 96), (some (92, true)), .bin .eql (.t 95) (kI 1), [], (.new [])⟩,
sq 97 (.pick (.t 92) (.t 96) (kB false)),
sq 98 (.mv (.t 97)),
⟨(some 99), (some (98, true)), .fieldA 0 (.t 2), [], (.new [])⟩,
⟨(some 100), (some (98, true)), .fieldA 5 (.t 99), [], (.new [])⟩,
⟨(some 101), (some (98, true)), .load none (.t 100), [], (.new [])⟩,
⟨(some 102), (some (98, true)), .bin .eql (.t 101) (kI 1), [], (.new [])⟩,
sq 103 (.pick (.t 98) (.t 102) (kB false)),
sq 104 (.mv (.t 103)),
⟨(some 105), (some (104, true)), .fieldA 0 (.t 2), [], (.new [])⟩,
⟨(some 106), (some (104, true)), .fieldA 6 (.t 105), [], (.new [])⟩,
⟨(some 107), (some (104, true)), .load none (.t 106), [], (.new [])⟩,
⟨(some 108), (some (104, true)), .bin .eql (.t 107) (kI 5), [], (.new [])⟩,
sq 109 (.pick (.t 104) (.t 108) (kB false)),
sq 110 (.mv (.t 109)),
⟨(some 111), (some (110, true)), .fieldA 0 (.t 5), [], (.new [])⟩,
⟨(some 112), (some (110, true)), .fieldA 4 (.t 111), [], (.new [])⟩,
⟨(some 113), (some (110, true)), .load none (.t 112), [], (.new [])⟩,
⟨(some 114), (some (110, true)), .bin .eql (.t 113) (kI 2), [], (.new [])⟩,
sq 115 (.pick (.t 110) (.t 114) (kB false)),
sq 116 (.mv (.t 115)),
⟨(some 117), (some (116, true)), .fieldA 0 (.t 5), [], (.new [])⟩,
⟨(some 118), (some (116, true)), .fieldA 5 (.t 117), [], (.new [])⟩,
⟨(some 119), (some (116, true)), .load none (.t 118), [], (.new [])⟩,
⟨(some 120), (some (116, true)), .bin .eql (.t 119) (kI 2), [], (.new [])⟩,
sq 121 (.pick (.t 116) (.t 120) (kB false)),
sq 122 (.mv (.t 121)),
⟨(some 123), (some (122, true)), .mv (.t 10), [], (.new [])⟩,
⟨(some 124), (some (122, true)), .len (.t 123), [], (.new [])⟩,
⟨(some 125), (some (122, true)), .bin .eql (.t 124) (kI 1), [], (.new [])⟩,
sq 126 (.pick (.t 122) (.t 125) (kB false)),
sq 127 (.mv (.t 126)),
⟨(some 128), (some (127, true)), .mv (.t 10), [], (.new [])⟩,
⟨(some 129), (some (127, true)), .indexA 23 (.t 128) (kI 0), [], (.new [])⟩,
⟨(some 130), (some (127, true)), .fieldA 13 (.t 129), [], (.new [])⟩,
⟨(some 131), (some (127, true)), .fieldA 1 (.t 130), [], (.new [])⟩,
⟨(some 132), (some (127, true)), .load none (.t 131), [], (.new [])⟩,
⟨(some 133), (some (127, true)), .bin .eql (.t 132) (kI 1), [], (.new [])⟩,
sq 134 (.pick (.t 127) (.t 133) (kB false)),
sq 135 (.mv (.t 134)),
⟨(some 136), (some (135, true)), .fieldA 0 (.t 12), [], (.new [])⟩,
⟨(some 137), (some (135, true)), .fieldA 4 (.t 136), [], (.new [])⟩,
⟨(some 138), (some (135, true)), .load none (.t 137), [], (.new [])⟩,
⟨(some 139), (some (135, true)), .bin .eql (.t 138) (kI 3), [], (.new [])⟩,
sq 140 (.pick (.t 135) (.t 139) (kB false)),
sq 141 (.mv (.t 140)),
⟨(some 142), (some (141, true)), .fieldA 0 (.t 1), [], (.new [])⟩,
⟨(some 143), (some (141, true)), .load none (.t 142), [], (.new [])⟩,
⟨(some 144), (some (141, true)), .bin .eql (.t 143) (kI 3), [], (.new [])⟩,
sq 145 (.pick (.t 141) (.t 144) (kB false)),
sq 146 (.mv (.t 145)),
⟨(some 147), (some (146, true)), .fieldA 4 (.t 1), [], (.new [])⟩,
⟨(some 148), (some (146, true)), .load none (.t 147), [], (.new [])⟩,
⟨(some 149), (some (146, true)), .len (.t 148), [], (.new [])⟩,
⟨(some 150), (some (146, true)), .bin .eql (.t 149) (kI 0), [], (.new [])⟩,
sq 151 (.pick (.t 146) (.t 150) (kB false)),
sq 152 (.mv (.t 151)),
⟨(some 153), (some (152, true)), .fieldA 5 (.t 1), [], (.new [])⟩,
⟨(some 154), (some (152, true)), .load none (.t 153), [], (.new [])⟩,
⟨(some 155), (some (152, true)), .len (.t 154), [], (.new [])⟩,
⟨(some 156), (some (152, true)), .bin .eql (.t 155) (kI 1), [], (.new [])⟩,
sq 157 (.pick (.t 152) (.t 156) (kB false)),
sq 0 (.mv (.t 157))]))
 .ret))))))))))))⟩
theorem a8_ok : afn Try.prog 8 = some a8.er := by kernel_rfl
theorem F8_ok {r : Bool} (h : F8 = some r) : CallD Try.prog 8 [] [] (tupV [.c (.d (.v (.bool r)))]) [] := by
 refine callS a8_ok (by simp [a8]) ?_
 rw [F8] at h
 simp only [a8, VW.down, Nat.reduceEqDiff, reduceCtorEq, Nat.reduceAdd, Nat.reduceLeDiff, Nat.reduceLT, Nat.reduceBEq, Nat.reduceSub, EE.down]
 obtain ⟨t1, ht1, h⟩ := bi h
 refine cN [] (F9_ok ht1) trivial ?_
 refine ww ?_
 obtain ⟨t2, ht2, h⟩ := bi h
 refine cN [] (F26_ok ht2) trivial ?_
 refine ww ?_
 obtain ⟨t3, ht3, h⟩ := bi h
 refine cN [] (F25_ok ht3) trivial ?_
 refine ww ?_
 obtain ⟨o4, ho, h⟩ := bi h
 refine cutS (fun s => s = ⟨[(1, .one (.c (.pt 0 0))), (2, .one (.c (.pt 1 0))), (3, .one (.c (.d (.v (.int .i64 t3.2.2.2.2.2.2.2))))), (4, .one (.c (.pt 2 0))), (5, .one (.c (.pt 3 0))), (6, .one (.c (.d (.v (.int .i64 o4.2.2.2.2.2.2)))))], [some (.box [.d (.v (.int .i64 o4.1)), .d (.v (.int .i64 o4.2.1)), .d (.v (.int .i64 t3.2.2.1)), .d (.sl (o4.2.2.1.map eObject)), .d (.sl (o4.2.2.2.1.map eObject)), .d (.sl (o4.2.2.2.2.1.map eChange))]), some (.box [.d (.v (.string ((t3.2.2.2.2.2.2.1).Meta.Kind))), .d (.v (.string ((t3.2.2.2.2.2.2.1).Meta.Namespace))), .d (.v (.string ((t3.2.2.2.2.2.2.1).Meta.Name))), .d (.v (.int .i64 ((t3.2.2.2.2.2.2.1).Meta.Uid))), .d (.v (.int .i64 ((t3.2.2.2.2.2.2.1).Meta.Version))), .d (.v (.int .i64 ((t3.2.2.2.2.2.2.1).Meta.Generation))), .d (.v (.int .i64 ((t3.2.2.2.2.2.2.1).Meta.Created))), .d (.v (.bool ((t3.2.2.2.2.2.2.1).Meta.Deleting))), .d (.v (.int .i64 ((t3.2.2.2.2.2.2.1).Meta.DeleteAt))), .d (.sl (((t3.2.2.2.2.2.2.1).Meta.Labels).map eLabel)), .d (.sl (((t3.2.2.2.2.2.2.1).Meta.Owners).map eOwner)), .d (.sl (((t3.2.2.2.2.2.2.1).Meta.Finalizers).map eS)), .d (.sl (((t3.2.2.2.2.2.2.1).Meta.Managers).map eManager)), .d (.v (.int .i64 ((t3.2.2.2.2.2.2.1).Spec.Kind))), .d (.v (.int .i64 ((t3.2.2.2.2.2.2.1).Spec.N))), .d (.v (.string ((t3.2.2.2.2.2.2.1).Spec.S))), .d (.sl (((t3.2.2.2.2.2.2.1).Spec.List_).map eTValue)), .d (.sl (((t3.2.2.2.2.2.2.1).Spec.Fields).map eTField)), .d (.v (.int .i64 ((t3.2.2.2.2.2.2.1).Status.Kind))), .d (.v (.int .i64 ((t3.2.2.2.2.2.2.1).Status.N))), .d (.v (.string ((t3.2.2.2.2.2.2.1).Status.S))), .d (.sl (((t3.2.2.2.2.2.2.1).Status.List_).map eTValue)), .d (.sl (((t3.2.2.2.2.2.2.1).Status.Fields).map eTField))]), some (.box [.d (.v (.string ((t3.2.2.2.2.2.2.1).Meta.Kind))), .d (.v (.string ((t3.2.2.2.2.2.2.1).Meta.Namespace))), .d (.v (.string ((t3.2.2.2.2.2.2.1).Meta.Name))), .d (.v (.int .i64 ((t3.2.2.2.2.2.2.1).Meta.Uid))), .d (.v (.int .i64 ((t3.2.2.2.2.2.2.1).Meta.Version))), .d (.v (.int .i64 ((t3.2.2.2.2.2.2.1).Meta.Generation))), .d (.v (.int .i64 ((t3.2.2.2.2.2.2.1).Meta.Created))), .d (.v (.bool ((t3.2.2.2.2.2.2.1).Meta.Deleting))), .d (.v (.int .i64 ((t3.2.2.2.2.2.2.1).Meta.DeleteAt))), .d (.sl (((t3.2.2.2.2.2.2.1).Meta.Labels).map eLabel)), .d (.sl (((t3.2.2.2.2.2.2.1).Meta.Owners).map eOwner)), .d (.sl (((t3.2.2.2.2.2.2.1).Meta.Finalizers).map eS)), .d (.sl (((t3.2.2.2.2.2.2.1).Meta.Managers).map eManager)), .d (.v (.int .i64 2)), .d (.v (.int .i64 2)), .d (.v (.string ((⟨#[]⟩ : ByteArray)))), .d (.v (.slice none 0 0)), .d (.v (.slice none 0 0)), .d (.v (.int .i64 ((t3.2.2.2.2.2.2.1).Status.Kind))), .d (.v (.int .i64 ((t3.2.2.2.2.2.2.1).Status.N))), .d (.v (.string ((t3.2.2.2.2.2.2.1).Status.S))), .d (.sl (((t3.2.2.2.2.2.2.1).Status.List_).map eTValue)), .d (.sl (((t3.2.2.2.2.2.2.1).Status.Fields).map eTField))]), some (.box [.d (.v (.string ((o4.2.2.2.2.2.1).Meta.Kind))), .d (.v (.string ((o4.2.2.2.2.2.1).Meta.Namespace))), .d (.v (.string ((o4.2.2.2.2.2.1).Meta.Name))), .d (.v (.int .i64 ((o4.2.2.2.2.2.1).Meta.Uid))), .d (.v (.int .i64 ((o4.2.2.2.2.2.1).Meta.Version))), .d (.v (.int .i64 ((o4.2.2.2.2.2.1).Meta.Generation))), .d (.v (.int .i64 ((o4.2.2.2.2.2.1).Meta.Created))), .d (.v (.bool ((o4.2.2.2.2.2.1).Meta.Deleting))), .d (.v (.int .i64 ((o4.2.2.2.2.2.1).Meta.DeleteAt))), .d (.sl (((o4.2.2.2.2.2.1).Meta.Labels).map eLabel)), .d (.sl (((o4.2.2.2.2.2.1).Meta.Owners).map eOwner)), .d (.sl (((o4.2.2.2.2.2.1).Meta.Finalizers).map eS)), .d (.sl (((o4.2.2.2.2.2.1).Meta.Managers).map eManager)), .d (.v (.int .i64 ((o4.2.2.2.2.2.1).Spec.Kind))), .d (.v (.int .i64 ((o4.2.2.2.2.2.1).Spec.N))), .d (.v (.string ((o4.2.2.2.2.2.1).Spec.S))), .d (.sl (((o4.2.2.2.2.2.1).Spec.List_).map eTValue)), .d (.sl (((o4.2.2.2.2.2.1).Spec.Fields).map eTField)), .d (.v (.int .i64 ((o4.2.2.2.2.2.1).Status.Kind))), .d (.v (.int .i64 ((o4.2.2.2.2.2.1).Status.N))), .d (.v (.string ((o4.2.2.2.2.2.1).Status.S))), .d (.sl (((o4.2.2.2.2.2.1).Status.List_).map eTValue)), .d (.sl (((o4.2.2.2.2.2.1).Status.Fields).map eTField))])]⟩) ?_ ?_
 ·have h := ho
  clear ho
  refine ww ?_
  obtain ⟨t5, ht5, h⟩ := bi h
  refine callX_gen (as1 := [.agg [.d (.v (.int .i64 t3.1)), .d (.v (.int .i64 t3.2.1)), .d (.v (.int .i64 t3.2.2.1)), .d (.sl (t3.2.2.2.1.map eObject)), .d (.sl (t3.2.2.2.2.1.map eObject)), .d (.sl (t3.2.2.2.2.2.1.map eChange))], .agg [.d (.v (.string ((t3.2.2.2.2.2.2.1).Meta.Kind))), .d (.v (.string ((t3.2.2.2.2.2.2.1).Meta.Namespace))), .d (.v (.string ((t3.2.2.2.2.2.2.1).Meta.Name))), .d (.v (.int .i64 ((t3.2.2.2.2.2.2.1).Meta.Uid))), .d (.v (.int .i64 ((t3.2.2.2.2.2.2.1).Meta.Version))), .d (.v (.int .i64 ((t3.2.2.2.2.2.2.1).Meta.Generation))), .d (.v (.int .i64 ((t3.2.2.2.2.2.2.1).Meta.Created))), .d (.v (.bool ((t3.2.2.2.2.2.2.1).Meta.Deleting))), .d (.v (.int .i64 ((t3.2.2.2.2.2.2.1).Meta.DeleteAt))), .d (.sl (((t3.2.2.2.2.2.2.1).Meta.Labels).map eLabel)), .d (.sl (((t3.2.2.2.2.2.2.1).Meta.Owners).map eOwner)), .d (.sl (((t3.2.2.2.2.2.2.1).Meta.Finalizers).map eS)), .d (.sl (((t3.2.2.2.2.2.2.1).Meta.Managers).map eManager)), .d (.v (.int .i64 2)), .d (.v (.int .i64 2)), .d (.v (.string ((⟨#[]⟩ : ByteArray)))), .d (.sl []), .d (.sl []), .d (.v (.int .i64 ((t3.2.2.2.2.2.2.1).Status.Kind))), .d (.v (.int .i64 ((t3.2.2.2.2.2.2.1).Status.N))), .d (.v (.string ((t3.2.2.2.2.2.2.1).Status.S))), .d (.sl (((t3.2.2.2.2.2.2.1).Status.List_).map eTValue)), .d (.sl (((t3.2.2.2.2.2.2.1).Status.Fields).map eTField))]]) [(0, .arr 1 23 []), (1, .arr 1 23 []), (2, .arr 1 25 []), (3, .box [.d (.v (.int .i64 t3.1)), .d (.v (.int .i64 t3.2.1)), .d (.v (.int .i64 t3.2.2.1)), .own 0 0 0 0 (some 0), .own 1 0 0 0 (some 0), .own 2 0 0 0 (some 0)])] [none, none, none, some 3, some 4, some 5] [] (F12_ok ht5) ⟨?_, rfl, ?_⟩ ?_ ?_ ?_ ?_ ?_ ?_ ?_ ?_
  · simp only [ZZ.down, Nat.reduceEqDiff, reduceCtorEq, Nat.reduceAdd, Nat.reduceLeDiff, Nat.reduceLT, Nat.reduceBNe, EE.down]
  · simp only [ZZ.down, Nat.reduceEqDiff, reduceCtorEq, Nat.reduceAdd, Nat.reduceLeDiff, Nat.reduceLT, Nat.reduceBNe, EE.down]
  · simp only [ZZ.down, Nat.reduceEqDiff, reduceCtorEq, Nat.reduceAdd, Nat.reduceLeDiff, Nat.reduceLT, Nat.reduceBNe, EE.down]
  · rfl
  · rfl
  · simp [liveAll, A1.live, C.live]
  · rfl
  · decide
  · exact trivial
  refine ww ?_
  obtain rfl := Option.some.inj h
  exact eM [some 3, some 4, some 5, some 9] rfl
 ·rintro _ rfl
  clear ho
  refine ww ?_
  obtain ⟨t6, ht6, h⟩ := bi h
  refine cN [] (F12_ok ht6) trivial ?_
  refine ww ?_
  obtain ⟨t7, ht7, h⟩ := bi h
  refine cN [] (F16_ok ht7) trivial ?_
  refine ww ?_
  obtain ⟨t8, ht8, h⟩ := bi h
  refine cN [] (F27_ok ht8) trivial ?_
  refine ww ?_
  obtain ⟨o9, ho, h⟩ := bi h
  refine cutS (fun s => s = ⟨[(1, .one (.c (.pt 0 0))), (2, .one (.c (.pt 1 0))), (3, .one (.c (.d (.v (.int .i64 t3.2.2.2.2.2.2.2))))), (5, .one (.c (.pt 2 0))), (6, .one (.c (.d (.v (.int .i64 o4.2.2.2.2.2.2))))), (9, .one (.c (.d (.v (.int .i64 t6.2.2.2.2.2.2.2.2.2.2.2.2.2.2.2.2.2.2.2.2.2.2.2.2.2.2.2.2))))), (10, .one (.c (.d (.sl (t7.1.map eObject))))), (11, .one (.c (.d (.v (.int .i64 t7.2))))), (12, .one (.c (.pt 3 0))), (13, .one (.c (.d (.v (.int .i64 t8.2.2.2.2.2.2))))), (14, .one (.c (.d (.v (.int .i64 o9.2.2.2.2)))))], [some (.box [.d (.v (.int .i64 t8.1)), .d (.v (.int .i64 o9.1)), .d (.v (.int .i64 t3.2.2.1)), .d (.sl (o9.2.1.map eObject)), .d (.sl (o9.2.2.1.map eObject)), .d (.sl (o9.2.2.2.1.map eChange))]), some (.box [.d (.v (.string ((t3.2.2.2.2.2.2.1).Meta.Kind))), .d (.v (.string ((t3.2.2.2.2.2.2.1).Meta.Namespace))), .d (.v (.string ((t3.2.2.2.2.2.2.1).Meta.Name))), .d (.v (.int .i64 ((t3.2.2.2.2.2.2.1).Meta.Uid))), .d (.v (.int .i64 ((t3.2.2.2.2.2.2.1).Meta.Version))), .d (.v (.int .i64 ((t3.2.2.2.2.2.2.1).Meta.Generation))), .d (.v (.int .i64 ((t3.2.2.2.2.2.2.1).Meta.Created))), .d (.v (.bool ((t3.2.2.2.2.2.2.1).Meta.Deleting))), .d (.v (.int .i64 ((t3.2.2.2.2.2.2.1).Meta.DeleteAt))), .d (.sl (((t3.2.2.2.2.2.2.1).Meta.Labels).map eLabel)), .d (.sl (((t3.2.2.2.2.2.2.1).Meta.Owners).map eOwner)), .d (.sl (((t3.2.2.2.2.2.2.1).Meta.Finalizers).map eS)), .d (.sl (((t3.2.2.2.2.2.2.1).Meta.Managers).map eManager)), .d (.v (.int .i64 ((t3.2.2.2.2.2.2.1).Spec.Kind))), .d (.v (.int .i64 ((t3.2.2.2.2.2.2.1).Spec.N))), .d (.v (.string ((t3.2.2.2.2.2.2.1).Spec.S))), .d (.sl (((t3.2.2.2.2.2.2.1).Spec.List_).map eTValue)), .d (.sl (((t3.2.2.2.2.2.2.1).Spec.Fields).map eTField)), .d (.v (.int .i64 ((t3.2.2.2.2.2.2.1).Status.Kind))), .d (.v (.int .i64 ((t3.2.2.2.2.2.2.1).Status.N))), .d (.v (.string ((t3.2.2.2.2.2.2.1).Status.S))), .d (.sl (((t3.2.2.2.2.2.2.1).Status.List_).map eTValue)), .d (.sl (((t3.2.2.2.2.2.2.1).Status.Fields).map eTField))]), some (.box [.d (.v (.string ((o4.2.2.2.2.2.1).Meta.Kind))), .d (.v (.string ((o4.2.2.2.2.2.1).Meta.Namespace))), .d (.v (.string ((o4.2.2.2.2.2.1).Meta.Name))), .d (.v (.int .i64 ((o4.2.2.2.2.2.1).Meta.Uid))), .d (.v (.int .i64 ((o4.2.2.2.2.2.1).Meta.Version))), .d (.v (.int .i64 ((o4.2.2.2.2.2.1).Meta.Generation))), .d (.v (.int .i64 ((o4.2.2.2.2.2.1).Meta.Created))), .d (.v (.bool ((o4.2.2.2.2.2.1).Meta.Deleting))), .d (.v (.int .i64 ((o4.2.2.2.2.2.1).Meta.DeleteAt))), .d (.sl (((o4.2.2.2.2.2.1).Meta.Labels).map eLabel)), .d (.sl (((o4.2.2.2.2.2.1).Meta.Owners).map eOwner)), .d (.sl (((o4.2.2.2.2.2.1).Meta.Finalizers).map eS)), .d (.sl (((o4.2.2.2.2.2.1).Meta.Managers).map eManager)), .d (.v (.int .i64 ((o4.2.2.2.2.2.1).Spec.Kind))), .d (.v (.int .i64 ((o4.2.2.2.2.2.1).Spec.N))), .d (.v (.string ((o4.2.2.2.2.2.1).Spec.S))), .d (.sl (((o4.2.2.2.2.2.1).Spec.List_).map eTValue)), .d (.sl (((o4.2.2.2.2.2.1).Spec.Fields).map eTField)), .d (.v (.int .i64 ((o4.2.2.2.2.2.1).Status.Kind))), .d (.v (.int .i64 ((o4.2.2.2.2.2.1).Status.N))), .d (.v (.string ((o4.2.2.2.2.2.1).Status.S))), .d (.sl (((o4.2.2.2.2.2.1).Status.List_).map eTValue)), .d (.sl (((o4.2.2.2.2.2.1).Status.Fields).map eTField))]), some (.box [.d (.v (.string ((t8.2.2.2.2.2.1).Meta.Kind))), .d (.v (.string ((t8.2.2.2.2.2.1).Meta.Namespace))), .d (.v (.string ((t8.2.2.2.2.2.1).Meta.Name))), .d (.v (.int .i64 ((t8.2.2.2.2.2.1).Meta.Uid))), .d (.v (.int .i64 ((t8.2.2.2.2.2.1).Meta.Version))), .d (.v (.int .i64 ((t8.2.2.2.2.2.1).Meta.Generation))), .d (.v (.int .i64 ((t8.2.2.2.2.2.1).Meta.Created))), .d (.v (.bool ((t8.2.2.2.2.2.1).Meta.Deleting))), .d (.v (.int .i64 ((t8.2.2.2.2.2.1).Meta.DeleteAt))), .d (.sl (((t8.2.2.2.2.2.1).Meta.Labels).map eLabel)), .d (.sl (((t8.2.2.2.2.2.1).Meta.Owners).map eOwner)), .d (.sl (((t8.2.2.2.2.2.1).Meta.Finalizers).map eS)), .d (.sl (((t8.2.2.2.2.2.1).Meta.Managers).map eManager)), .d (.v (.int .i64 ((t8.2.2.2.2.2.1).Spec.Kind))), .d (.v (.int .i64 ((t8.2.2.2.2.2.1).Spec.N))), .d (.v (.string ((t8.2.2.2.2.2.1).Spec.S))), .d (.sl (((t8.2.2.2.2.2.1).Spec.List_).map eTValue)), .d (.sl (((t8.2.2.2.2.2.1).Spec.Fields).map eTField)), .d (.v (.int .i64 ((t8.2.2.2.2.2.1).Status.Kind))), .d (.v (.int .i64 ((t8.2.2.2.2.2.1).Status.N))), .d (.v (.string ((t8.2.2.2.2.2.1).Status.S))), .d (.sl (((t8.2.2.2.2.2.1).Status.List_).map eTValue)), .d (.sl (((t8.2.2.2.2.2.1).Status.Fields).map eTField))])]⟩) ?_ ?_
  ·have h := ho
   clear ho
   refine ww ?_
   obtain ⟨t10, ht10, h⟩ := bi h
   refine callX_gen (as1 := [.agg [.d (.v (.int .i64 t8.1)), .d (.v (.int .i64 t8.2.1)), .d (.v (.int .i64 t3.2.2.1)), .d (.sl (t8.2.2.1.map eObject)), .d (.sl (t8.2.2.2.1.map eObject)), .d (.sl (t8.2.2.2.2.1.map eChange))], .c (.d (.v (.int .i64 2)))]) [(10, .arr 1 23 []), (11, .arr 1 23 []), (12, .arr 1 25 []), (0, .box [.d (.v (.int .i64 t8.1)), .d (.v (.int .i64 t8.2.1)), .d (.v (.int .i64 t3.2.2.1)), .own 10 0 0 0 (some 0), .own 11 0 0 0 (some 0), .own 12 0 0 0 (some 0)])] [some 0, some 1, some 2, some 3, some 4, some 5, some 6, some 7, some 8, some 9, none, none, none, some 13] [] (F19_ok ht10) ⟨?_, rfl, ?_⟩ ?_ ?_ ?_ ?_ ?_ ?_ ?_ ?_
   · simp only [ZZ.down, Nat.reduceEqDiff, reduceCtorEq, Nat.reduceAdd, Nat.reduceLeDiff, Nat.reduceLT, Nat.reduceBNe, EE.down]
   · simp only [ZZ.down, Nat.reduceEqDiff, reduceCtorEq, Nat.reduceAdd, Nat.reduceLeDiff, Nat.reduceLT, Nat.reduceBNe, EE.down]
   · simp only [ZZ.down, Nat.reduceEqDiff, reduceCtorEq, Nat.reduceAdd, Nat.reduceLeDiff, Nat.reduceLT, Nat.reduceBNe, EE.down]
   · rfl
   · rfl
   · simp [liveAll, A1.live, C.live]
   · rfl
   · decide
   · exact trivial
   refine ww ?_
   obtain rfl := Option.some.inj h
   exact eM [some 0, some 1, some 3, some 13] rfl
  ·rintro _ rfl
   clear ho
   refine ww ?_
   obtain ⟨t11, ht11, h⟩ := bi h
   refine cN [] (F16_ok ht11) trivial ?_
   refine ww ?_
   obtain ⟨o12, ho, h⟩ := bi h
   refine cutS (fun s => s = ⟨[(1, .one (.c (.pt 0 0))), (2, .one (.c (.pt 1 0))), (5, .one (.c (.pt 2 0))), (10, .one (.c (.d (.sl (t7.1.map eObject))))), (12, .one (.c (.pt 3 0))), (87, .one (.c (.d (.v (.bool o12)))))], [some (.box [.d (.v (.int .i64 t8.1)), .d (.v (.int .i64 o9.1)), .d (.v (.int .i64 t3.2.2.1)), .d (.sl (o9.2.1.map eObject)), .d (.sl (o9.2.2.1.map eObject)), .d (.sl (o9.2.2.2.1.map eChange))]), some (.box [.d (.v (.string ((t3.2.2.2.2.2.2.1).Meta.Kind))), .d (.v (.string ((t3.2.2.2.2.2.2.1).Meta.Namespace))), .d (.v (.string ((t3.2.2.2.2.2.2.1).Meta.Name))), .d (.v (.int .i64 ((t3.2.2.2.2.2.2.1).Meta.Uid))), .d (.v (.int .i64 ((t3.2.2.2.2.2.2.1).Meta.Version))), .d (.v (.int .i64 ((t3.2.2.2.2.2.2.1).Meta.Generation))), .d (.v (.int .i64 ((t3.2.2.2.2.2.2.1).Meta.Created))), .d (.v (.bool ((t3.2.2.2.2.2.2.1).Meta.Deleting))), .d (.v (.int .i64 ((t3.2.2.2.2.2.2.1).Meta.DeleteAt))), .d (.sl (((t3.2.2.2.2.2.2.1).Meta.Labels).map eLabel)), .d (.sl (((t3.2.2.2.2.2.2.1).Meta.Owners).map eOwner)), .d (.sl (((t3.2.2.2.2.2.2.1).Meta.Finalizers).map eS)), .d (.sl (((t3.2.2.2.2.2.2.1).Meta.Managers).map eManager)), .d (.v (.int .i64 ((t3.2.2.2.2.2.2.1).Spec.Kind))), .d (.v (.int .i64 ((t3.2.2.2.2.2.2.1).Spec.N))), .d (.v (.string ((t3.2.2.2.2.2.2.1).Spec.S))), .d (.sl (((t3.2.2.2.2.2.2.1).Spec.List_).map eTValue)), .d (.sl (((t3.2.2.2.2.2.2.1).Spec.Fields).map eTField)), .d (.v (.int .i64 ((t3.2.2.2.2.2.2.1).Status.Kind))), .d (.v (.int .i64 ((t3.2.2.2.2.2.2.1).Status.N))), .d (.v (.string ((t3.2.2.2.2.2.2.1).Status.S))), .d (.sl (((t3.2.2.2.2.2.2.1).Status.List_).map eTValue)), .d (.sl (((t3.2.2.2.2.2.2.1).Status.Fields).map eTField))]), some (.box [.d (.v (.string ((o4.2.2.2.2.2.1).Meta.Kind))), .d (.v (.string ((o4.2.2.2.2.2.1).Meta.Namespace))), .d (.v (.string ((o4.2.2.2.2.2.1).Meta.Name))), .d (.v (.int .i64 ((o4.2.2.2.2.2.1).Meta.Uid))), .d (.v (.int .i64 ((o4.2.2.2.2.2.1).Meta.Version))), .d (.v (.int .i64 ((o4.2.2.2.2.2.1).Meta.Generation))), .d (.v (.int .i64 ((o4.2.2.2.2.2.1).Meta.Created))), .d (.v (.bool ((o4.2.2.2.2.2.1).Meta.Deleting))), .d (.v (.int .i64 ((o4.2.2.2.2.2.1).Meta.DeleteAt))), .d (.sl (((o4.2.2.2.2.2.1).Meta.Labels).map eLabel)), .d (.sl (((o4.2.2.2.2.2.1).Meta.Owners).map eOwner)), .d (.sl (((o4.2.2.2.2.2.1).Meta.Finalizers).map eS)), .d (.sl (((o4.2.2.2.2.2.1).Meta.Managers).map eManager)), .d (.v (.int .i64 ((o4.2.2.2.2.2.1).Spec.Kind))), .d (.v (.int .i64 ((o4.2.2.2.2.2.1).Spec.N))), .d (.v (.string ((o4.2.2.2.2.2.1).Spec.S))), .d (.sl (((o4.2.2.2.2.2.1).Spec.List_).map eTValue)), .d (.sl (((o4.2.2.2.2.2.1).Spec.Fields).map eTField)), .d (.v (.int .i64 ((o4.2.2.2.2.2.1).Status.Kind))), .d (.v (.int .i64 ((o4.2.2.2.2.2.1).Status.N))), .d (.v (.string ((o4.2.2.2.2.2.1).Status.S))), .d (.sl (((o4.2.2.2.2.2.1).Status.List_).map eTValue)), .d (.sl (((o4.2.2.2.2.2.1).Status.Fields).map eTField))]), some (.box [.d (.v (.string ((t8.2.2.2.2.2.1).Meta.Kind))), .d (.v (.string ((t8.2.2.2.2.2.1).Meta.Namespace))), .d (.v (.string ((t8.2.2.2.2.2.1).Meta.Name))), .d (.v (.int .i64 ((t8.2.2.2.2.2.1).Meta.Uid))), .d (.v (.int .i64 ((t8.2.2.2.2.2.1).Meta.Version))), .d (.v (.int .i64 ((t8.2.2.2.2.2.1).Meta.Generation))), .d (.v (.int .i64 ((t8.2.2.2.2.2.1).Meta.Created))), .d (.v (.bool ((t8.2.2.2.2.2.1).Meta.Deleting))), .d (.v (.int .i64 ((t8.2.2.2.2.2.1).Meta.DeleteAt))), .d (.sl (((t8.2.2.2.2.2.1).Meta.Labels).map eLabel)), .d (.sl (((t8.2.2.2.2.2.1).Meta.Owners).map eOwner)), .d (.sl (((t8.2.2.2.2.2.1).Meta.Finalizers).map eS)), .d (.sl (((t8.2.2.2.2.2.1).Meta.Managers).map eManager)), .d (.v (.int .i64 ((t8.2.2.2.2.2.1).Spec.Kind))), .d (.v (.int .i64 ((t8.2.2.2.2.2.1).Spec.N))), .d (.v (.string ((t8.2.2.2.2.2.1).Spec.S))), .d (.sl (((t8.2.2.2.2.2.1).Spec.List_).map eTValue)), .d (.sl (((t8.2.2.2.2.2.1).Spec.Fields).map eTField)), .d (.v (.int .i64 ((t8.2.2.2.2.2.1).Status.Kind))), .d (.v (.int .i64 ((t8.2.2.2.2.2.1).Status.N))), .d (.v (.string ((t8.2.2.2.2.2.1).Status.S))), .d (.sl (((t8.2.2.2.2.2.1).Status.List_).map eTValue)), .d (.sl (((t8.2.2.2.2.2.1).Status.Fields).map eTField))])]⟩) ?_ ?_
   ·have h := ho
    clear ho
    refine ww ?_
    refine guardSh h (fun g13 h => ?_) (fun g13 h => ?_)
    ·refine ww ?_
     obtain rfl := Option.some.inj h
     exact eM [some 0, some 1, some 2, some 3] rfl
    ·refine ww ?_
     refine guardSh h (fun g14 h => ?_) (fun g14 h => ?_)
     ·refine ww ?_
      obtain rfl := Option.some.inj h
      exact eM [some 0, some 1, some 2, some 3] rfl
     ·refine ww ?_
      refine guardSh h (fun g15 h => ?_) (fun g15 h => ?_)
      ·refine ww ?_
       obtain rfl := Option.some.inj h
       exact eM [some 0, some 1, some 2, some 3] rfl
      ·refine ww ?_
       refine guardSh h (fun g16 h => ?_) (fun g16 h => ?_)
       ·refine ww ?_
        obtain rfl := Option.some.inj h
        exact eM [some 0, some 1, some 2, some 3] rfl
       ·refine ww ?_
        refine guardSh h (fun g17 h => ?_) (fun g17 h => ?_)
        ·refine ww ?_
         obtain rfl := Option.some.inj h
         exact eM [some 0, some 1, some 2, some 3] rfl
        ·refine ww ?_
         refine guardSh h (fun g18 h => ?_) (fun g18 h => ?_)
         ·refine ww ?_
          obtain rfl := Option.some.inj h
          exact eM [some 0, some 1, some 2, some 3] rfl
         ·refine ww ?_
          obtain rfl := Option.some.inj h
          exact eM [some 0, some 1, some 2, some 3] rfl
   ·rintro _ rfl
    clear ho
    refine ww ?_
    refine condBh h (fun c19 h => ?_) (fun c19 h => ?_)
    ·refine ww ?_
     obtain rfl := Option.some.inj h
     exact eF []
    ·refine ww ?_
     obtain ⟨o20, ho, h⟩ := bi h
     refine cutS (fun s => s = ⟨[(0, .one (.c (.d (.v (.bool o20)))))], []⟩) ?_ ?_
     ·have h := ho
      clear ho
      refine ww ?_
      refine guardSh h (fun g21 h => ?_) (fun g21 h => ?_)
      ·refine ww ?_
       refine guardSh h (fun g22 h => ?_) (fun g22 h => ?_)
       ·refine ww ?_
        refine guardSh h (fun g23 h => ?_) (fun g23 h => ?_)
        ·refine ww ?_
         refine guardSh h (fun g24 h => ?_) (fun g24 h => ?_)
         ·refine ww ?_
          refine guardSh h (fun g25 h => ?_) (fun g25 h => ?_)
          ·refine ww ?_
           refine guardSh h (fun g26 h => ?_) (fun g26 h => ?_)
           ·refine ww ?_
            refine guardSh h (fun g27 h => ?_) (fun g27 h => ?_)
            ·refine ww ?_
             obtain ⟨y28, hy28, h⟩ := bi h
             refine t_idxF (enc := eObject) (xs := t7.1) rfl rfl hy28 rfl ?_
             refine ww ?_
             refine guardSh h (fun g29 h => ?_) (fun g29 h => ?_)
             ·refine ww ?_
              refine guardSh h (fun g30 h => ?_) (fun g30 h => ?_)
              ·refine ww ?_
               refine guardSh h (fun g31 h => ?_) (fun g31 h => ?_)
               ·refine ww ?_
                refine guardSh h (fun g32 h => ?_) (fun g32 h => ?_)
                ·refine ww ?_
                 obtain rfl := Option.some.inj h
                 exact eM [] rfl
                ·refine ww ?_
                 obtain rfl := Option.some.inj h
                 exact eM [] rfl
               ·refine ww ?_
                obtain rfl := Option.some.inj h
                exact eM [] rfl
              ·refine ww ?_
               obtain rfl := Option.some.inj h
               exact eM [] rfl
             ·refine ww ?_
              obtain rfl := Option.some.inj h
              exact eM [] rfl
            ·refine ww ?_
             obtain rfl := Option.some.inj h
             exact eM [] rfl
           ·refine ww ?_
            obtain rfl := Option.some.inj h
            exact eM [] rfl
          ·refine ww ?_
           obtain rfl := Option.some.inj h
           exact eM [] rfl
         ·refine ww ?_
          obtain rfl := Option.some.inj h
          exact eM [] rfl
        ·refine ww ?_
         obtain rfl := Option.some.inj h
         exact eM [] rfl
       ·refine ww ?_
        obtain rfl := Option.some.inj h
        exact eM [] rfl
      ·refine ww ?_
       obtain rfl := Option.some.inj h
       exact eM [] rfl
     ·rintro _ rfl
      clear ho
      refine ww ?_
      obtain rfl := Option.some.inj h
      exact eF []

/- orchestrator/orchestratorref13.Key -/
def F76 (x0 : ByteArray) (x1 : ByteArray) (x2 : ByteArray) : Option (ByteArray) := (catI x0 ((⟨#[47]⟩ : ByteArray))).bind fun s1 => (catI s1 x1).bind fun s2 => (catI s2 ((⟨#[47]⟩ : ByteArray))).bind fun s3 => (catI s3 x2).bind fun s4 => some s4
def a76 : AFn := ⟨14, [(.tmp 6)],
 (.seq (.reg [sq 6 (.mv (kS ⟨#[]⟩))])
 (.seq (.reg [sq 7 (.mv (.t 0)),
sq 8 (.bin .add (.t 7) (kS ⟨#[47]⟩)),
sq 9 (.mv (.t 1)),
sq 10 (.bin .add (.t 8) (.t 9)),
sq 11 (.bin .add (.t 10) (kS ⟨#[47]⟩)),
sq 12 (.mv (.t 2)),
sq 13 (.bin .add (.t 11) (.t 12)),
sq 6 (.mv (.t 13))])
 .ret))⟩
theorem a76_ok : afn Try.prog 76 = some a76.er := by kernel_rfl
theorem F76_ok {x0 : ByteArray} {x1 : ByteArray} {x2 : ByteArray} {r : ByteArray} (h : F76 x0 x1 x2 = some r) : CallD Try.prog 76 [.c (.d (.v (.string x0))), .c (.d (.v (.string x1))), .c (.d (.v (.string x2)))] [] (tupV [.c (.d (.v (.string r)))]) [] := by
 refine callS a76_ok (by simp [a76]) ?_
 rw [F76] at h
 simp only [a76, VW.down, Nat.reduceEqDiff, reduceCtorEq, Nat.reduceAdd, Nat.reduceLeDiff, Nat.reduceLT, Nat.reduceBEq, Nat.reduceSub, EE.down]
 obtain ⟨s1, hs1, h⟩ := bi h
 obtain ⟨hle, es1⟩ := cat_some hs1
 refine ⟨hle, ?_⟩
 first | rw [← es1] | subst es1
 refine ww ?_
 obtain ⟨s2, hs2, h⟩ := bi h
 obtain ⟨hle, es2⟩ := cat_some hs2
 refine ⟨hle, ?_⟩
 first | rw [← es2] | subst es2
 refine ww ?_
 obtain ⟨s3, hs3, h⟩ := bi h
 obtain ⟨hle, es3⟩ := cat_some hs3
 refine ⟨hle, ?_⟩
 first | rw [← es3] | subst es3
 refine ww ?_
 obtain ⟨s4, hs4, h⟩ := bi h
 obtain ⟨hle, es4⟩ := cat_some hs4
 refine ⟨hle, ?_⟩
 first | rw [← es4] | subst es4
 refine ww ?_
 obtain rfl := Option.some.inj h
 exact eF []

/- orchestrator/orchestratorref13.KeyOf -/
def F54 (x0 : Meta) : Option (ByteArray) := (F76 x0.Kind x0.Namespace x0.Name).bind fun t1 => some t1
def a54 : AFn := ⟨10, [(.tmp 2)],
 (.seq (.reg [sq 1 (.box (.t 0)),
sq 2 (.mv (kS ⟨#[]⟩))])
 (.seq (.reg [sq 3 (.fieldA 0 (.t 1)),
sq 4 (.load none (.t 3)),
sq 5 (.fieldA 1 (.t 1)),
sq 6 (.load none (.t 5)),
sq 7 (.fieldA 2 (.t 1)),
sq 8 (.load none (.t 7)),
sq 9 (.call 76 [(.t 4), (.t 6), (.t 8)]),
sq 2 (.mv (.t 9))])
 .ret))⟩
theorem a54_ok : afn Try.prog 54 = some a54.er := by kernel_rfl
theorem F54_ok {x0 : Meta} {r : ByteArray} (h : F54 x0 = some r) : CallD Try.prog 54 [.agg [.d (.v (.string x0.Kind)), .d (.v (.string x0.Namespace)), .d (.v (.string x0.Name)), .d (.v (.int .i64 x0.Uid)), .d (.v (.int .i64 x0.Version)), .d (.v (.int .i64 x0.Generation)), .d (.v (.int .i64 x0.Created)), .d (.v (.bool x0.Deleting)), .d (.v (.int .i64 x0.DeleteAt)), .d (.sl (x0.Labels.map eLabel)), .d (.sl (x0.Owners.map eOwner)), .d (.sl (x0.Finalizers.map eS)), .d (.sl (x0.Managers.map eManager))]] [] (tupV [.c (.d (.v (.string r)))]) [] := by
 refine callS a54_ok (by simp [a54]) ?_
 rw [F54] at h
 simp only [a54, VW.down, Nat.reduceEqDiff, reduceCtorEq, Nat.reduceAdd, Nat.reduceLeDiff, Nat.reduceLT, Nat.reduceBEq, Nat.reduceSub, EE.down]
 obtain ⟨t1, ht1, h⟩ := bi h
 refine cN [] (F76_ok ht1) trivial ?_
 refine ww ?_
 obtain rfl := Option.some.inj h
 exact eF []

/- orchestrator/orchestratorref14.key -/
def F99 (x0 : Object) : Option (ByteArray) := (F54 x0.Meta).bind fun t1 => some t1
def a99 : AFn := ⟨6, [(.tmp 2)],
 (.seq (.reg [sq 1 (.box (.t 0)),
sq 2 (.mv (kS ⟨#[]⟩))])
 (.seq (.reg [sq 3 (.fieldA 0 (.t 1)),
sq 4 (.load (some 13) (.t 3)),
sq 5 (.call 54 [(.t 4)]),
sq 2 (.mv (.t 5))])
 .ret))⟩
theorem a99_ok : afn Try.prog 99 = some a99.er := by kernel_rfl
theorem F99_ok {x0 : Object} {r : ByteArray} (h : F99 x0 = some r) : CallD Try.prog 99 [.agg [.d (.v (.string x0.Meta.Kind)), .d (.v (.string x0.Meta.Namespace)), .d (.v (.string x0.Meta.Name)), .d (.v (.int .i64 x0.Meta.Uid)), .d (.v (.int .i64 x0.Meta.Version)), .d (.v (.int .i64 x0.Meta.Generation)), .d (.v (.int .i64 x0.Meta.Created)), .d (.v (.bool x0.Meta.Deleting)), .d (.v (.int .i64 x0.Meta.DeleteAt)), .d (.sl (x0.Meta.Labels.map eLabel)), .d (.sl (x0.Meta.Owners.map eOwner)), .d (.sl (x0.Meta.Finalizers.map eS)), .d (.sl (x0.Meta.Managers.map eManager)), .d (.v (.int .i64 x0.Spec.Kind)), .d (.v (.int .i64 x0.Spec.N)), .d (.v (.string x0.Spec.S)), .d (.sl (x0.Spec.List_.map eTValue)), .d (.sl (x0.Spec.Fields.map eTField)), .d (.v (.int .i64 x0.Status.Kind)), .d (.v (.int .i64 x0.Status.N)), .d (.v (.string x0.Status.S)), .d (.sl (x0.Status.List_.map eTValue)), .d (.sl (x0.Status.Fields.map eTField))]] [] (tupV [.c (.d (.v (.string r)))]) [] := by
 refine callS a99_ok (by simp [a99]) ?_
 rw [F99] at h
 simp only [a99, VW.down, Nat.reduceEqDiff, reduceCtorEq, Nat.reduceAdd, Nat.reduceLeDiff, Nat.reduceLT, Nat.reduceBEq, Nat.reduceSub, EE.down]
 obtain ⟨t1, ht1, h⟩ := bi h
 refine cN [] (F54_ok ht1) trivial ?_
 refine ww ?_
 obtain rfl := Option.some.inj h
 exact eF []

/- orchestrator/orchestratorref14.Find -/
def F77_l1 (x1 : ByteArray) : List Object → Nat → Option ((Int) ⊕ (Unit))
  | [], o1_0 => some (Sum.inr (()))
  | xo1 :: xs, o1_0 => (F99 xo1).bind fun t3 => (if t3 = x1 then (some ((o1_0 : Int))).map Sum.inl else F77_l1 x1 xs (o1_0 + 1))
def F77 (x0 : (List Object)) (x1 : ByteArray) : Option (Int) := (((ck (0 ≤ x0.length ∧ x0.length ≤ 4294967290)).bind fun u5 => F77_l1 x1 x0 0 : Option ((Int) ⊕ (Unit))).bind fun o1 => match o1 with | Sum.inl f => some f | Sum.inr po1 => some ((-1)))
def a77 : AFn := ⟨20, [(.tmp 4)],
 (.seq (.reg [sq 4 (.mv (kI 0))])
 (.seq (.seq (.reg [sq 5 (.mv (kI 0))])
 (.sem (.block 0 (.loop (.seq (.seq (.reg [sq 6 (.mv (.t 5)),
sq 7 (.mv (.t 0)),
sq 8 (.len (.t 7)),
sq 9 (.bin .lss (.t 6) (.t 8))])
 (.cond (.t 9)
 .skip
 (.exit 0)))
 (.seq (.block 1 (.seq (.reg [sq 12 (.mv (.t 0)),
sq 13 (.mv (.t 5)),
sq 14 (.indexA 23 (.t 12) (.t 13)),
sq 15 (.load (some 23) (.t 14)),
sq 16 (.call 99 [(.t 15)]),
sq 17 (.mv (.t 1)),
sq 18 (.bin .eql (.t 16) (.t 17))])
 (.cond (.t 18)
 (.seq (.reg [sq 19 (.mv (.t 5)),
sq 4 (.mv (.t 19))])
 .ret)
 .skip)))
 (.reg [sq 10 (.mv (.t 5)),
sq 11 (.bin .add (.t 10) (kI 1)),
sq 5 (.mv (.t 11))])))))))
 (.seq (.reg [sq 4 (.mv (kI (-1)))])
 .ret)))⟩
theorem a77_ok : afn Try.prog 77 = some a77.er := by kernel_rfl
theorem F77_ok {x0 : (List Object)} {x1 : ByteArray} {r : Int} (h : F77 x0 x1 = some r) : CallD Try.prog 77 [.c (.d (.sl (x0.map eObject))), .c (.d (.v (.string x1)))] [] (tupV [.c (.d (.v (.int .i64 r)))]) [] := by
 refine callS a77_ok (by simp [a77]) ?_
 rw [F77] at h
 simp only [a77, VW.down, Nat.reduceEqDiff, reduceCtorEq, Nat.reduceAdd, Nat.reduceLeDiff, Nat.reduceLT, Nat.reduceBEq, Nat.reduceSub, EE.down]
 obtain ⟨o1, ho, h⟩ := bi h
 refine cutS (fun s => ∃ po1, o1 = Sum.inr po1 ∧ s = ⟨[], []⟩) ?_ ?_
 ·have h0o1 := h
  have h := ho
  clear ho
  obtain ⟨_, hk, h⟩ := bi h
  have hk := ck_some hk
  refine ww ?_
  refine bL (fun j s => ∃ (o1_0 : Nat), (o1_0 ≤ x0.length ∧ j = x0.length - o1_0) ∧ s = ⟨[(0, .one (.c (.d (.sl (x0.map eObject))))), (1, .one (.c (.d (.v (.string x1))))), (5, .one (.c (.d (.v (.int .i64 ((o1_0 : Int)))))))], []⟩ ∧ F77_l1 x1 (x0.drop o1_0) o1_0 = some o1) (x0.length - 0) [] ⟨0, ⟨hk.1, rfl⟩, rfl, h⟩ ?_
  rintro _ _ ⟨o1_0, ⟨hi, rfl⟩, rfl, h⟩
  refine ww ?_
  refine condS (fun c2 => ?_) (fun c2 => ?_)
  ·obtain ⟨xo1, hxo1, hd⟩ := countY (show (o1_0 : Int) < (x0.length : Int) from c2)
   rw [hd, F77_l1] at h
   refine ww ?_
   refine t_idxF (enc := eObject) (xs := x0) rfl rfl hxo1 rfl ?_
   refine ww ?_
   obtain ⟨t3, ht3, h⟩ := bi h
   refine cN [] (F99_ok ht3) trivial ?_
   refine ww ?_
   refine condSh h (fun c4 h => ?_) (fun c4 h => ?_)
   ·refine ww ?_
    obtain ⟨fh0o1, hfh0o1, rfl⟩ := Option.map_eq_some_iff.1 h
    have h := hfh0o1.trans h0o1
    obtain rfl := Option.some.inj h
    exact eF []
   ·refine ww ?_
    rw [wrapN (by omega)]
    exact eL' (x0.length - (o1_0 + 1)) [] ⟨o1_0 + 1, ⟨by omega, rfl⟩, rfl, h⟩ (by omega)
  ·rw [countN (show ¬ ((o1_0 : Int) < (x0.length : Int)) from c2), F77_l1] at h
   refine ww ?_
   obtain rfl := Option.some.inj h
   exact eM [] ⟨_, rfl, rfl⟩
 ·rintro _ ⟨po1, rfl, rfl⟩
  clear ho
  dsimp only at h
  refine ww ?_
  obtain rfl := Option.some.inj h
  exact eF []

/- orchestrator/orchestratorref14.Get -/
def F55 (x0 : TStore) (x1 : ByteArray) : Option (Object × Bool) := (F77 x0.Objects x1).bind fun t1 => (if t1 < 0 then some (((⟨(⟨(⟨#[]⟩ : ByteArray), (⟨#[]⟩ : ByteArray), (⟨#[]⟩ : ByteArray), 0, 0, 0, 0, false, 0, [], [], [], []⟩ : Meta), (⟨0, 0, (⟨#[]⟩ : ByteArray), [], []⟩ : TValue), (⟨0, 0, (⟨#[]⟩ : ByteArray), [], []⟩ : TValue)⟩ : Object), false)) else (rdI x0.Objects t1).bind fun y3 => some ((y3, true)))
def a55 : AFn := ⟨19, [(.cell 4 (some 23)), (.tmp 5)],
 (.seq (.reg [sq 2 (.box (.t 0)),
sq 4 (.zbox [.d (.v (.string ⟨#[]⟩)), .d (.v (.string ⟨#[]⟩)), .d (.v (.string ⟨#[]⟩)), .d (.v (.int .i64 0)), .d (.v (.int .i64 0)), .d (.v (.int .i64 0)), .d (.v (.int .i64 0)), .d (.v (.bool false)), .d (.v (.int .i64 0)), .d (.v (.slice none 0 0)), .d (.v (.slice none 0 0)), .d (.v (.slice none 0 0)), .d (.v (.slice none 0 0)), .d (.v (.int .i64 0)), .d (.v (.int .i64 0)), .d (.v (.string ⟨#[]⟩)), .d (.v (.slice none 0 0)), .d (.v (.slice none 0 0)), .d (.v (.int .i64 0)), .d (.v (.int .i64 0)), .d (.v (.string ⟨#[]⟩)), .d (.v (.slice none 0 0)), .d (.v (.slice none 0 0))]),
sq 5 (.mv (kB false))])
 (.seq (.reg [sq 7 (.fieldA 4 (.t 2)),
sq 8 (.load none (.t 7)),
sq 9 (.mv (.t 1)),
sq 10 (.call 77 [(.t 8), (.t 9)]),
sq 6 (.mv (.t 10))])
 (.seq (.seq (.reg [sq 11 (.mv (.t 6)),
sq 12 (.bin .lss (.t 11) (kI 0))])
 (.cond (.t 12)
 (.seq (.reg [sq 13 (.build [.d (.v (.string ⟨#[]⟩)), .d (.v (.string ⟨#[]⟩)), .d (.v (.string ⟨#[]⟩)), .d (.v (.int .i64 0)), .d (.v (.int .i64 0)), .d (.v (.int .i64 0)), .d (.v (.int .i64 0)), .d (.v (.bool false)), .d (.v (.int .i64 0)), .d (.v (.slice none 0 0)), .d (.v (.slice none 0 0)), .d (.v (.slice none 0 0)), .d (.v (.slice none 0 0)), .d (.v (.int .i64 0)), .d (.v (.int .i64 0)), .d (.v (.string ⟨#[]⟩)), .d (.v (.slice none 0 0)), .d (.v (.slice none 0 0)), .d (.v (.int .i64 0)), .d (.v (.int .i64 0)), .d (.v (.string ⟨#[]⟩)), .d (.v (.slice none 0 0)), .d (.v (.slice none 0 0))] []),
su (.store 23 (.t 4) (.t 13)),
sq 5 (.mv (kB false))])
 .ret)
 .skip))
 (.seq (.reg [sq 14 (.fieldA 4 (.t 2)),
sq 15 (.load none (.t 14)),
sq 16 (.mv (.t 6)),
sq 17 (.indexA 23 (.t 15) (.t 16)),
sq 18 (.load (some 23) (.t 17)),
su (.store 23 (.t 4) (.t 18)),
sq 5 (.mv (kB true))])
 .ret))))⟩
theorem a55_ok : afn Try.prog 55 = some a55.er := by kernel_rfl
theorem F55_ok {x0 : TStore} {x1 : ByteArray} {r : Object × Bool} (h : F55 x0 x1 = some r) : CallD Try.prog 55 [.agg [.d (.v (.int .i64 x0.Rev)), .d (.v (.int .i64 x0.Floor)), .d (.v (.int .i64 x0.NextUid)), .d (.sl (x0.Base.map eObject)), .d (.sl (x0.Objects.map eObject)), .d (.sl (x0.History.map eChange))], .c (.d (.v (.string x1)))] [] (tupV [.agg [.d (.v (.string ((r.1).Meta.Kind))), .d (.v (.string ((r.1).Meta.Namespace))), .d (.v (.string ((r.1).Meta.Name))), .d (.v (.int .i64 ((r.1).Meta.Uid))), .d (.v (.int .i64 ((r.1).Meta.Version))), .d (.v (.int .i64 ((r.1).Meta.Generation))), .d (.v (.int .i64 ((r.1).Meta.Created))), .d (.v (.bool ((r.1).Meta.Deleting))), .d (.v (.int .i64 ((r.1).Meta.DeleteAt))), .d (.sl (((r.1).Meta.Labels).map eLabel)), .d (.sl (((r.1).Meta.Owners).map eOwner)), .d (.sl (((r.1).Meta.Finalizers).map eS)), .d (.sl (((r.1).Meta.Managers).map eManager)), .d (.v (.int .i64 ((r.1).Spec.Kind))), .d (.v (.int .i64 ((r.1).Spec.N))), .d (.v (.string ((r.1).Spec.S))), .d (.sl (((r.1).Spec.List_).map eTValue)), .d (.sl (((r.1).Spec.Fields).map eTField)), .d (.v (.int .i64 ((r.1).Status.Kind))), .d (.v (.int .i64 ((r.1).Status.N))), .d (.v (.string ((r.1).Status.S))), .d (.sl (((r.1).Status.List_).map eTValue)), .d (.sl (((r.1).Status.Fields).map eTField))], .c (.d (.v (.bool r.2)))]) [] := by
 refine callS a55_ok (by simp [a55]) ?_
 rw [F55] at h
 simp only [a55, VW.down, Nat.reduceEqDiff, reduceCtorEq, Nat.reduceAdd, Nat.reduceLeDiff, Nat.reduceLT, Nat.reduceBEq, Nat.reduceSub, EE.down]
 obtain ⟨t1, ht1, h⟩ := bi h
 refine cN [] (F77_ok ht1) trivial ?_
 refine ww ?_
 refine condSh h (fun c2 h => ?_) (fun c2 h => ?_)
 ·refine ww ?_
  obtain rfl := Option.some.inj h
  exact eF []
 ·refine ww ?_
  obtain ⟨y3, hy3, h⟩ := bi h
  refine t_idxF (enc := eObject) (xs := x0.Objects) rfl rfl hy3 rfl ?_
  refine ww ?_
  obtain rfl := Option.some.inj h
  exact eF []

/- orchestrator/orchestratorlaw14.prepared -/
def F28 (x0 : TStore) (x1 : TOp) : Option (Int × Int) := (((if x1.Kind = 2 then (F54 x1.O.Meta).bind fun t3 => some t3 else some x1.Key)).bind fun o1 => (((if x1.Version < 0 then (F55 x0 o1).bind fun t6 => some ((t6.1).Meta.Version) else some x1.Version)).bind fun o4 => (if x1.Kind = 2 then some ((o4, o4)) else some ((x1.O.Meta.Version, o4)))))
def a28 : AFn := ⟨43, [(.cell 4 (some 23)), (.tmp 5)],
 (.seq (.reg [sq 2 (.box (.t 0)),
sq 3 (.box (.t 1)),
sq 4 (.zbox [.d (.v (.string ⟨#[]⟩)), .d (.v (.string ⟨#[]⟩)), .d (.v (.string ⟨#[]⟩)), .d (.v (.int .i64 0)), .d (.v (.int .i64 0)), .d (.v (.int .i64 0)), .d (.v (.int .i64 0)), .d (.v (.bool false)), .d (.v (.int .i64 0)), .d (.v (.slice none 0 0)), .d (.v (.slice none 0 0)), .d (.v (.slice none 0 0)), .d (.v (.slice none 0 0)), .d (.v (.int .i64 0)), .d (.v (.int .i64 0)), .d (.v (.string ⟨#[]⟩)), .d (.v (.slice none 0 0)), .d (.v (.slice none 0 0)), .d (.v (.int .i64 0)), .d (.v (.int .i64 0)), .d (.v (.string ⟨#[]⟩)), .d (.v (.slice none 0 0)), .d (.v (.slice none 0 0))]),
sq 5 (.mv (kI 0))])
 (.seq (.reg [sq 11 (.fieldA 24 (.t 3)),
sq 12 (.load none (.t 11)),
sq 6 (.mv (.t 12))])
 (.seq (.sem (.seq (.reg [sq 13 (.fieldA 0 (.t 3)),
sq 14 (.load none (.t 13)),
sq 15 (.bin .eql (.t 14) (kI 2))])
 (.cond (.t 15)
 (.reg [sq 16 (.fieldA 1 (.t 3)),
sq 17 (.fieldA 0 (.t 16)),
sq 18 (.load (some 13) (.t 17)),
sq 19 (.call 54 [(.t 18)]),
sq 6 (.mv (.t 19))])
 .skip)))
 (.seq (.reg [sq 20 (.fieldA 25 (.t 3)),
sq 21 (.load none (.t 20)),
sq 7 (.mv (.t 21))])
 (.seq (.sem (.seq (.reg [sq 22 (.mv (.t 7)),
sq 23 (.bin .lss (.t 22) (kI 0))])
 (.cond (.t 23)
 (.seq (.reg [sq 25 (.load (some 6) (.t 2)),
sq 26 (.mv (.t 6)),
sq 27 (.call 55 [(.t 25), (.t 26)]),
sq 24 (.mv (.t 27)),
sq 28 (.ext (.t 24) 0),
sq 29 (.ext (.t 24) 1),
sq 8 (.zbox [.d (.v (.string ⟨#[]⟩)), .d (.v (.string ⟨#[]⟩)), .d (.v (.string ⟨#[]⟩)), .d (.v (.int .i64 0)), .d (.v (.int .i64 0)), .d (.v (.int .i64 0)), .d (.v (.int .i64 0)), .d (.v (.bool false)), .d (.v (.int .i64 0)), .d (.v (.slice none 0 0)), .d (.v (.slice none 0 0)), .d (.v (.slice none 0 0)), .d (.v (.slice none 0 0)), .d (.v (.int .i64 0)), .d (.v (.int .i64 0)), .d (.v (.string ⟨#[]⟩)), .d (.v (.slice none 0 0)), .d (.v (.slice none 0 0)), .d (.v (.int .i64 0)), .d (.v (.int .i64 0)), .d (.v (.string ⟨#[]⟩)), .d (.v (.slice none 0 0)), .d (.v (.slice none 0 0))]),
su (.store 23 (.t 8) (.t 28)),
sq 9 (.mv (.t 29))])
 (.reg [sq 30 (.fieldA 0 (.t 8)),
sq 31 (.fieldA 4 (.t 30)),
sq 32 (.load none (.t 31)),
sq 7 (.mv (.t 32))]))
 .skip)))
 (.seq (.reg [sq 33 (.fieldA 1 (.t 3)),
sq 34 (.load (some 23) (.t 33)),
sq 10 (.zbox [.d (.v (.string ⟨#[]⟩)), .d (.v (.string ⟨#[]⟩)), .d (.v (.string ⟨#[]⟩)), .d (.v (.int .i64 0)), .d (.v (.int .i64 0)), .d (.v (.int .i64 0)), .d (.v (.int .i64 0)), .d (.v (.bool false)), .d (.v (.int .i64 0)), .d (.v (.slice none 0 0)), .d (.v (.slice none 0 0)), .d (.v (.slice none 0 0)), .d (.v (.slice none 0 0)), .d (.v (.int .i64 0)), .d (.v (.int .i64 0)), .d (.v (.string ⟨#[]⟩)), .d (.v (.slice none 0 0)), .d (.v (.slice none 0 0)), .d (.v (.int .i64 0)), .d (.v (.int .i64 0)), .d (.v (.string ⟨#[]⟩)), .d (.v (.slice none 0 0)), .d (.v (.slice none 0 0))]),
su (.store 23 (.t 10) (.t 34))])
 (.seq (.seq (.reg [sq 35 (.fieldA 0 (.t 3)),
sq 36 (.load none (.t 35)),
sq 37 (.bin .eql (.t 36) (kI 2))])
 (.cond (.t 37)
 (.reg [sq 38 (.mv (.t 7)),
sq 39 (.fieldA 0 (.t 10)),
sq 40 (.fieldA 4 (.t 39)),
⟨none, none, .store 1 (.t 40) (.t 38), [], (.lone [10, 39])⟩])
 .skip))
 (.seq (.reg [sq 41 (.load (some 23) (.t 10)),
sq 42 (.mv (.t 7)),
su (.store 23 (.t 4) (.t 41)),
sq 5 (.mv (.t 42))])
 .ret))))))))⟩
theorem a28_ok : afn Try.prog 28 = some a28.er := by kernel_rfl
theorem F28_ok {x0 : TStore} {x1 : TOp} {r : Int × Int} (h : F28 x0 x1 = some r) : CallD Try.prog 28 [.agg [.d (.v (.int .i64 x0.Rev)), .d (.v (.int .i64 x0.Floor)), .d (.v (.int .i64 x0.NextUid)), .d (.sl (x0.Base.map eObject)), .d (.sl (x0.Objects.map eObject)), .d (.sl (x0.History.map eChange))], .agg [.d (.v (.int .i64 x1.Kind)), .d (.v (.string x1.O.Meta.Kind)), .d (.v (.string x1.O.Meta.Namespace)), .d (.v (.string x1.O.Meta.Name)), .d (.v (.int .i64 x1.O.Meta.Uid)), .d (.v (.int .i64 x1.O.Meta.Version)), .d (.v (.int .i64 x1.O.Meta.Generation)), .d (.v (.int .i64 x1.O.Meta.Created)), .d (.v (.bool x1.O.Meta.Deleting)), .d (.v (.int .i64 x1.O.Meta.DeleteAt)), .d (.sl (x1.O.Meta.Labels.map eLabel)), .d (.sl (x1.O.Meta.Owners.map eOwner)), .d (.sl (x1.O.Meta.Finalizers.map eS)), .d (.sl (x1.O.Meta.Managers.map eManager)), .d (.v (.int .i64 x1.O.Spec.Kind)), .d (.v (.int .i64 x1.O.Spec.N)), .d (.v (.string x1.O.Spec.S)), .d (.sl (x1.O.Spec.List_.map eTValue)), .d (.sl (x1.O.Spec.Fields.map eTField)), .d (.v (.int .i64 x1.O.Status.Kind)), .d (.v (.int .i64 x1.O.Status.N)), .d (.v (.string x1.O.Status.S)), .d (.sl (x1.O.Status.List_.map eTValue)), .d (.sl (x1.O.Status.Fields.map eTField)), .d (.v (.string x1.Key)), .d (.v (.int .i64 x1.Version)), .d (.v (.int .i64 x1.Now)), .d (.v (.int .i64 x1.Rev))]] [] (tupV [.agg [.d (.v (.string x1.O.Meta.Kind)), .d (.v (.string x1.O.Meta.Namespace)), .d (.v (.string x1.O.Meta.Name)), .d (.v (.int .i64 x1.O.Meta.Uid)), .d (.v (.int .i64 r.1)), .d (.v (.int .i64 x1.O.Meta.Generation)), .d (.v (.int .i64 x1.O.Meta.Created)), .d (.v (.bool x1.O.Meta.Deleting)), .d (.v (.int .i64 x1.O.Meta.DeleteAt)), .d (.sl (x1.O.Meta.Labels.map eLabel)), .d (.sl (x1.O.Meta.Owners.map eOwner)), .d (.sl (x1.O.Meta.Finalizers.map eS)), .d (.sl (x1.O.Meta.Managers.map eManager)), .d (.v (.int .i64 x1.O.Spec.Kind)), .d (.v (.int .i64 x1.O.Spec.N)), .d (.v (.string x1.O.Spec.S)), .d (.sl (x1.O.Spec.List_.map eTValue)), .d (.sl (x1.O.Spec.Fields.map eTField)), .d (.v (.int .i64 x1.O.Status.Kind)), .d (.v (.int .i64 x1.O.Status.N)), .d (.v (.string x1.O.Status.S)), .d (.sl (x1.O.Status.List_.map eTValue)), .d (.sl (x1.O.Status.Fields.map eTField))], .c (.d (.v (.int .i64 r.2)))]) [] := by
 refine callS a28_ok (by simp [a28]) ?_
 rw [F28] at h
 simp only [a28, VW.down, Nat.reduceEqDiff, reduceCtorEq, Nat.reduceAdd, Nat.reduceLeDiff, Nat.reduceLT, Nat.reduceBEq, Nat.reduceSub, EE.down]
 obtain ⟨o1, ho, h⟩ := bi h
 refine cutS (fun s => s = ⟨[(2, .one (.c (.pt 0 0))), (3, .one (.c (.pt 1 0))), (4, .one (.c (.pt 2 0))), (6, .one (.c (.d (.v (.string o1)))))], [some (.box [.d (.v (.int .i64 x0.Rev)), .d (.v (.int .i64 x0.Floor)), .d (.v (.int .i64 x0.NextUid)), .d (.sl (x0.Base.map eObject)), .d (.sl (x0.Objects.map eObject)), .d (.sl (x0.History.map eChange))]), some (.box [.d (.v (.int .i64 x1.Kind)), .d (.v (.string x1.O.Meta.Kind)), .d (.v (.string x1.O.Meta.Namespace)), .d (.v (.string x1.O.Meta.Name)), .d (.v (.int .i64 x1.O.Meta.Uid)), .d (.v (.int .i64 x1.O.Meta.Version)), .d (.v (.int .i64 x1.O.Meta.Generation)), .d (.v (.int .i64 x1.O.Meta.Created)), .d (.v (.bool x1.O.Meta.Deleting)), .d (.v (.int .i64 x1.O.Meta.DeleteAt)), .d (.sl (x1.O.Meta.Labels.map eLabel)), .d (.sl (x1.O.Meta.Owners.map eOwner)), .d (.sl (x1.O.Meta.Finalizers.map eS)), .d (.sl (x1.O.Meta.Managers.map eManager)), .d (.v (.int .i64 x1.O.Spec.Kind)), .d (.v (.int .i64 x1.O.Spec.N)), .d (.v (.string x1.O.Spec.S)), .d (.sl (x1.O.Spec.List_.map eTValue)), .d (.sl (x1.O.Spec.Fields.map eTField)), .d (.v (.int .i64 x1.O.Status.Kind)), .d (.v (.int .i64 x1.O.Status.N)), .d (.v (.string x1.O.Status.S)), .d (.sl (x1.O.Status.List_.map eTValue)), .d (.sl (x1.O.Status.Fields.map eTField)), .d (.v (.string x1.Key)), .d (.v (.int .i64 x1.Version)), .d (.v (.int .i64 x1.Now)), .d (.v (.int .i64 x1.Rev))]), some (.box [.d (.v (.string ((⟨#[]⟩ : ByteArray)))), .d (.v (.string ((⟨#[]⟩ : ByteArray)))), .d (.v (.string ((⟨#[]⟩ : ByteArray)))), .d (.v (.int .i64 0)), .d (.v (.int .i64 0)), .d (.v (.int .i64 0)), .d (.v (.int .i64 0)), .d (.v (.bool false)), .d (.v (.int .i64 0)), .d (.v (.slice none 0 0)), .d (.v (.slice none 0 0)), .d (.v (.slice none 0 0)), .d (.v (.slice none 0 0)), .d (.v (.int .i64 0)), .d (.v (.int .i64 0)), .d (.v (.string ((⟨#[]⟩ : ByteArray)))), .d (.v (.slice none 0 0)), .d (.v (.slice none 0 0)), .d (.v (.int .i64 0)), .d (.v (.int .i64 0)), .d (.v (.string ((⟨#[]⟩ : ByteArray)))), .d (.v (.slice none 0 0)), .d (.v (.slice none 0 0))])]⟩) ?_ ?_
 ·have h := ho
  clear ho
  refine ww ?_
  refine condSh h (fun c2 h => ?_) (fun c2 h => ?_)
  ·refine ww ?_
   obtain ⟨t3, ht3, h⟩ := bi h
   refine cN [] (F54_ok ht3) trivial ?_
   refine ww ?_
   obtain rfl := Option.some.inj h
   exact eM [some 0, some 1, some 2] rfl
  ·refine ww ?_
   obtain rfl := Option.some.inj h
   exact eM [some 0, some 1, some 2] rfl
 ·rintro _ rfl
  clear ho
  refine ww ?_
  obtain ⟨o4, ho, h⟩ := bi h
  refine cutS (fun s => s = ⟨[(3, .one (.c (.pt 0 0))), (4, .one (.c (.pt 1 0))), (7, .one (.c (.d (.v (.int .i64 o4)))))], [some (.box [.d (.v (.int .i64 x1.Kind)), .d (.v (.string x1.O.Meta.Kind)), .d (.v (.string x1.O.Meta.Namespace)), .d (.v (.string x1.O.Meta.Name)), .d (.v (.int .i64 x1.O.Meta.Uid)), .d (.v (.int .i64 x1.O.Meta.Version)), .d (.v (.int .i64 x1.O.Meta.Generation)), .d (.v (.int .i64 x1.O.Meta.Created)), .d (.v (.bool x1.O.Meta.Deleting)), .d (.v (.int .i64 x1.O.Meta.DeleteAt)), .d (.sl (x1.O.Meta.Labels.map eLabel)), .d (.sl (x1.O.Meta.Owners.map eOwner)), .d (.sl (x1.O.Meta.Finalizers.map eS)), .d (.sl (x1.O.Meta.Managers.map eManager)), .d (.v (.int .i64 x1.O.Spec.Kind)), .d (.v (.int .i64 x1.O.Spec.N)), .d (.v (.string x1.O.Spec.S)), .d (.sl (x1.O.Spec.List_.map eTValue)), .d (.sl (x1.O.Spec.Fields.map eTField)), .d (.v (.int .i64 x1.O.Status.Kind)), .d (.v (.int .i64 x1.O.Status.N)), .d (.v (.string x1.O.Status.S)), .d (.sl (x1.O.Status.List_.map eTValue)), .d (.sl (x1.O.Status.Fields.map eTField)), .d (.v (.string x1.Key)), .d (.v (.int .i64 x1.Version)), .d (.v (.int .i64 x1.Now)), .d (.v (.int .i64 x1.Rev))]), some (.box [.d (.v (.string ((⟨#[]⟩ : ByteArray)))), .d (.v (.string ((⟨#[]⟩ : ByteArray)))), .d (.v (.string ((⟨#[]⟩ : ByteArray)))), .d (.v (.int .i64 0)), .d (.v (.int .i64 0)), .d (.v (.int .i64 0)), .d (.v (.int .i64 0)), .d (.v (.bool false)), .d (.v (.int .i64 0)), .d (.v (.slice none 0 0)), .d (.v (.slice none 0 0)), .d (.v (.slice none 0 0)), .d (.v (.slice none 0 0)), .d (.v (.int .i64 0)), .d (.v (.int .i64 0)), .d (.v (.string ((⟨#[]⟩ : ByteArray)))), .d (.v (.slice none 0 0)), .d (.v (.slice none 0 0)), .d (.v (.int .i64 0)), .d (.v (.int .i64 0)), .d (.v (.string ((⟨#[]⟩ : ByteArray)))), .d (.v (.slice none 0 0)), .d (.v (.slice none 0 0))])]⟩) ?_ ?_
  ·have h := ho
   clear ho
   refine ww ?_
   refine condSh h (fun c5 h => ?_) (fun c5 h => ?_)
   ·refine ww ?_
    obtain ⟨t6, ht6, h⟩ := bi h
    refine cN [] (F55_ok ht6) trivial ?_
    refine ww ?_
    obtain rfl := Option.some.inj h
    exact eM [some 1, some 2] rfl
   ·refine ww ?_
    obtain rfl := Option.some.inj h
    exact eM [some 1, some 2] rfl
  ·rintro _ rfl
   clear ho
   refine ww ?_
   refine condSh h (fun c7 h => ?_) (fun c7 h => ?_)
   ·refine ww ?_
    obtain rfl := Option.some.inj h
    exact eF []
   ·refine ww ?_
    obtain rfl := Option.some.inj h
    exact eF []

/- orchestrator/orchestratorlaw14.step -/
def F10 (x0 : TStore) (x1 : TOp) : Option (Int × Int × Int × (List Object) × (List Object) × (List Change) × Object × Int) := (F28 x0 x1).bind fun t1 => (if x1.Kind = 1 then (F25 x0 ((⟨(⟨x1.O.Meta.Kind, x1.O.Meta.Namespace, x1.O.Meta.Name, x1.O.Meta.Uid, t1.1, x1.O.Meta.Generation, x1.O.Meta.Created, x1.O.Meta.Deleting, x1.O.Meta.DeleteAt, x1.O.Meta.Labels, x1.O.Meta.Owners, x1.O.Meta.Finalizers, x1.O.Meta.Managers⟩ : Meta), x1.O.Spec, x1.O.Status⟩ : Object)) x1.Now).bind fun t3 => some ((t3.1, t3.2.1, t3.2.2.1, t3.2.2.2.1, t3.2.2.2.2.1, t3.2.2.2.2.2.1, (⟨(⟨(t3.2.2.2.2.2.2.1).Meta.Kind, (t3.2.2.2.2.2.2.1).Meta.Namespace, (t3.2.2.2.2.2.2.1).Meta.Name, (t3.2.2.2.2.2.2.1).Meta.Uid, (t3.2.2.2.2.2.2.1).Meta.Version, (t3.2.2.2.2.2.2.1).Meta.Generation, (t3.2.2.2.2.2.2.1).Meta.Created, (t3.2.2.2.2.2.2.1).Meta.Deleting, (t3.2.2.2.2.2.2.1).Meta.DeleteAt, (t3.2.2.2.2.2.2.1).Meta.Labels, (t3.2.2.2.2.2.2.1).Meta.Owners, (t3.2.2.2.2.2.2.1).Meta.Finalizers, (t3.2.2.2.2.2.2.1).Meta.Managers⟩ : Meta), (⟨(t3.2.2.2.2.2.2.1).Spec.Kind, (t3.2.2.2.2.2.2.1).Spec.N, (t3.2.2.2.2.2.2.1).Spec.S, (t3.2.2.2.2.2.2.1).Spec.List_, (t3.2.2.2.2.2.2.1).Spec.Fields⟩ : TValue), (⟨(t3.2.2.2.2.2.2.1).Status.Kind, (t3.2.2.2.2.2.2.1).Status.N, (t3.2.2.2.2.2.2.1).Status.S, (t3.2.2.2.2.2.2.1).Status.List_, (t3.2.2.2.2.2.2.1).Status.Fields⟩ : TValue)⟩ : Object), t3.2.2.2.2.2.2.2)) else (if x1.Kind = 2 then (F12 x0 ((⟨(⟨x1.O.Meta.Kind, x1.O.Meta.Namespace, x1.O.Meta.Name, x1.O.Meta.Uid, t1.1, x1.O.Meta.Generation, x1.O.Meta.Created, x1.O.Meta.Deleting, x1.O.Meta.DeleteAt, x1.O.Meta.Labels, x1.O.Meta.Owners, x1.O.Meta.Finalizers, x1.O.Meta.Managers⟩ : Meta), x1.O.Spec, x1.O.Status⟩ : Object))).bind fun t5 => some ((t5.1, t5.2.1, x0.NextUid, t5.2.2.1, t5.2.2.2.1, t5.2.2.2.2.1, (⟨(⟨t5.2.2.2.2.2.1, t5.2.2.2.2.2.2.1, t5.2.2.2.2.2.2.2.1, t5.2.2.2.2.2.2.2.2.1, t5.2.2.2.2.2.2.2.2.2.1, t5.2.2.2.2.2.2.2.2.2.2.1, t5.2.2.2.2.2.2.2.2.2.2.2.1, t5.2.2.2.2.2.2.2.2.2.2.2.2.1, t5.2.2.2.2.2.2.2.2.2.2.2.2.2.1, t5.2.2.2.2.2.2.2.2.2.2.2.2.2.2.1, t5.2.2.2.2.2.2.2.2.2.2.2.2.2.2.2.1, t5.2.2.2.2.2.2.2.2.2.2.2.2.2.2.2.2.1, t5.2.2.2.2.2.2.2.2.2.2.2.2.2.2.2.2.2.1⟩ : Meta), (⟨t5.2.2.2.2.2.2.2.2.2.2.2.2.2.2.2.2.2.2.1, t5.2.2.2.2.2.2.2.2.2.2.2.2.2.2.2.2.2.2.2.1, t5.2.2.2.2.2.2.2.2.2.2.2.2.2.2.2.2.2.2.2.2.1, t5.2.2.2.2.2.2.2.2.2.2.2.2.2.2.2.2.2.2.2.2.2.1, t5.2.2.2.2.2.2.2.2.2.2.2.2.2.2.2.2.2.2.2.2.2.2.1⟩ : TValue), (⟨t5.2.2.2.2.2.2.2.2.2.2.2.2.2.2.2.2.2.2.2.2.2.2.2.1, t5.2.2.2.2.2.2.2.2.2.2.2.2.2.2.2.2.2.2.2.2.2.2.2.2.1, t5.2.2.2.2.2.2.2.2.2.2.2.2.2.2.2.2.2.2.2.2.2.2.2.2.2.1, t5.2.2.2.2.2.2.2.2.2.2.2.2.2.2.2.2.2.2.2.2.2.2.2.2.2.2.1, t5.2.2.2.2.2.2.2.2.2.2.2.2.2.2.2.2.2.2.2.2.2.2.2.2.2.2.2.1⟩ : TValue)⟩ : Object), t5.2.2.2.2.2.2.2.2.2.2.2.2.2.2.2.2.2.2.2.2.2.2.2.2.2.2.2.2)) else (if x1.Kind = 3 then (F27 x0 x1.Key t1.2).bind fun t7 => some ((t7.1, t7.2.1, x0.NextUid, t7.2.2.1, t7.2.2.2.1, t7.2.2.2.2.1, (⟨(⟨(t7.2.2.2.2.2.1).Meta.Kind, (t7.2.2.2.2.2.1).Meta.Namespace, (t7.2.2.2.2.2.1).Meta.Name, (t7.2.2.2.2.2.1).Meta.Uid, (t7.2.2.2.2.2.1).Meta.Version, (t7.2.2.2.2.2.1).Meta.Generation, (t7.2.2.2.2.2.1).Meta.Created, (t7.2.2.2.2.2.1).Meta.Deleting, (t7.2.2.2.2.2.1).Meta.DeleteAt, (t7.2.2.2.2.2.1).Meta.Labels, (t7.2.2.2.2.2.1).Meta.Owners, (t7.2.2.2.2.2.1).Meta.Finalizers, (t7.2.2.2.2.2.1).Meta.Managers⟩ : Meta), (⟨(t7.2.2.2.2.2.1).Spec.Kind, (t7.2.2.2.2.2.1).Spec.N, (t7.2.2.2.2.2.1).Spec.S, (t7.2.2.2.2.2.1).Spec.List_, (t7.2.2.2.2.2.1).Spec.Fields⟩ : TValue), (⟨(t7.2.2.2.2.2.1).Status.Kind, (t7.2.2.2.2.2.1).Status.N, (t7.2.2.2.2.2.1).Status.S, (t7.2.2.2.2.2.1).Status.List_, (t7.2.2.2.2.2.1).Status.Fields⟩ : TValue)⟩ : Object), t7.2.2.2.2.2.2)) else (F19 x0 x1.Rev).bind fun t8 => some ((x0.Rev, t8.1, x0.NextUid, t8.2.1, t8.2.2.1, t8.2.2.2.1, (⟨(⟨(⟨#[]⟩ : ByteArray), (⟨#[]⟩ : ByteArray), (⟨#[]⟩ : ByteArray), 0, 0, 0, 0, false, 0, [], [], [], []⟩ : Meta), (⟨0, 0, (⟨#[]⟩ : ByteArray), [], []⟩ : TValue), (⟨0, 0, (⟨#[]⟩ : ByteArray), [], []⟩ : TValue)⟩ : Object), t8.2.2.2.2)))))
def a10 : AFn := ⟨57, [(.cell 4 (some 6)), (.cell 5 (some 23)), (.tmp 6)],
 (.seq (.reg [sq 2 (.box (.t 0)),
sq 3 (.box (.t 1)),
sq 4 (.zbox [.d (.v (.int .i64 0)), .d (.v (.int .i64 0)), .d (.v (.int .i64 0)), .d (.v (.slice none 0 0)), .d (.v (.slice none 0 0)), .d (.v (.slice none 0 0))]),
sq 5 (.zbox [.d (.v (.string ⟨#[]⟩)), .d (.v (.string ⟨#[]⟩)), .d (.v (.string ⟨#[]⟩)), .d (.v (.int .i64 0)), .d (.v (.int .i64 0)), .d (.v (.int .i64 0)), .d (.v (.int .i64 0)), .d (.v (.bool false)), .d (.v (.int .i64 0)), .d (.v (.slice none 0 0)), .d (.v (.slice none 0 0)), .d (.v (.slice none 0 0)), .d (.v (.slice none 0 0)), .d (.v (.int .i64 0)), .d (.v (.int .i64 0)), .d (.v (.string ⟨#[]⟩)), .d (.v (.slice none 0 0)), .d (.v (.slice none 0 0)), .d (.v (.int .i64 0)), .d (.v (.int .i64 0)), .d (.v (.string ⟨#[]⟩)), .d (.v (.slice none 0 0)), .d (.v (.slice none 0 0))]),
sq 6 (.mv (kI 0))])
 (.seq (.reg [sq 12 (.load (some 6) (.t 2)),
sq 13 (.load (some 28) (.t 3)),
sq 14 (.call 28 [(.t 12), (.t 13)]),
sq 11 (.mv (.t 14)),
sq 15 (.ext (.t 11) 0),
sq 16 (.ext (.t 11) 1),
sq 7 (.zbox [.d (.v (.string ⟨#[]⟩)), .d (.v (.string ⟨#[]⟩)), .d (.v (.string ⟨#[]⟩)), .d (.v (.int .i64 0)), .d (.v (.int .i64 0)), .d (.v (.int .i64 0)), .d (.v (.int .i64 0)), .d (.v (.bool false)), .d (.v (.int .i64 0)), .d (.v (.slice none 0 0)), .d (.v (.slice none 0 0)), .d (.v (.slice none 0 0)), .d (.v (.slice none 0 0)), .d (.v (.int .i64 0)), .d (.v (.int .i64 0)), .d (.v (.string ⟨#[]⟩)), .d (.v (.slice none 0 0)), .d (.v (.slice none 0 0)), .d (.v (.int .i64 0)), .d (.v (.int .i64 0)), .d (.v (.string ⟨#[]⟩)), .d (.v (.slice none 0 0)), .d (.v (.slice none 0 0))]),
su (.store 23 (.t 7) (.t 15)),
sq 8 (.mv (.t 16))])
 (.seq (.seq (.reg [sq 17 (.fieldA 0 (.t 3)),
sq 18 (.load none (.t 17))])
 (.block 0 (.seq (.reg [sq 20 (.bin .eql (.t 18) (kI 1)),
sq 19 (.mv (.t 20))])
 (.cond (.t 19)
 (.seq (.reg [sq 21 (.load (some 6) (.t 2)),
sq 22 (.load (some 23) (.t 7)),
sq 23 (.fieldA 26 (.t 3)),
sq 24 (.load none (.t 23)),
sq 25 (.call 25 [(.t 21), (.t 22), (.t 24)]),
sq 26 (.ext (.t 25) 0),
sq 27 (.ext (.t 25) 1),
sq 28 (.ext (.t 25) 2),
su (.store 6 (.t 4) (.t 26)),
su (.store 23 (.t 5) (.t 27)),
sq 6 (.mv (.t 28))])
 .ret)
 (.seq (.reg [sq 30 (.bin .eql (.t 18) (kI 2)),
sq 29 (.mv (.t 30))])
 (.cond (.t 29)
 (.seq (.reg [sq 31 (.load (some 6) (.t 2)),
sq 32 (.load (some 23) (.t 7)),
sq 33 (.call 12 [(.t 31), (.t 32)]),
sq 34 (.ext (.t 33) 0),
sq 35 (.ext (.t 33) 1),
sq 36 (.ext (.t 33) 2),
su (.store 6 (.t 4) (.t 34)),
su (.store 23 (.t 5) (.t 35)),
sq 6 (.mv (.t 36))])
 .ret)
 (.seq (.reg [sq 38 (.bin .eql (.t 18) (kI 3)),
sq 37 (.mv (.t 38))])
 (.cond (.t 37)
 (.seq (.reg [sq 39 (.load (some 6) (.t 2)),
sq 40 (.fieldA 24 (.t 3)),
sq 41 (.load none (.t 40)),
sq 42 (.mv (.t 8)),
sq 43 (.call 27 [(.t 39), (.t 41), (.t 42)]),
sq 44 (.ext (.t 43) 0),
sq 45 (.ext (.t 43) 1),
sq 46 (.ext (.t 43) 2),
su (.store 6 (.t 4) (.t 44)),
su (.store 23 (.t 5) (.t 45)),
sq 6 (.mv (.t 46))])
 .ret)
 .skip))))))))
 (.seq (.reg [sq 48 (.load (some 6) (.t 2)),
sq 49 (.fieldA 27 (.t 3)),
sq 50 (.load none (.t 49)),
sq 51 (.call 19 [(.t 48), (.t 50)]),
sq 47 (.mv (.t 51)),
sq 52 (.ext (.t 47) 0),
sq 53 (.ext (.t 47) 1),
sq 9 (.zbox [.d (.v (.int .i64 0)), .d (.v (.int .i64 0)), .d (.v (.int .i64 0)), .d (.v (.slice none 0 0)), .d (.v (.slice none 0 0)), .d (.v (.slice none 0 0))]),
su (.store 6 (.t 9) (.t 52)),
sq 10 (.mv (.t 53))])
 (.seq (.reg [sq 54 (.load (some 6) (.t 9)),
sq 55 (.build [.d (.v (.string ⟨#[]⟩)), .d (.v (.string ⟨#[]⟩)), .d (.v (.string ⟨#[]⟩)), .d (.v (.int .i64 0)), .d (.v (.int .i64 0)), .d (.v (.int .i64 0)), .d (.v (.int .i64 0)), .d (.v (.bool false)), .d (.v (.int .i64 0)), .d (.v (.slice none 0 0)), .d (.v (.slice none 0 0)), .d (.v (.slice none 0 0)), .d (.v (.slice none 0 0)), .d (.v (.int .i64 0)), .d (.v (.int .i64 0)), .d (.v (.string ⟨#[]⟩)), .d (.v (.slice none 0 0)), .d (.v (.slice none 0 0)), .d (.v (.int .i64 0)), .d (.v (.int .i64 0)), .d (.v (.string ⟨#[]⟩)), .d (.v (.slice none 0 0)), .d (.v (.slice none 0 0))] []),
sq 56 (.mv (.t 10)),
su (.store 6 (.t 4) (.t 54)),
su (.store 23 (.t 5) (.t 55)),
sq 6 (.mv (.t 56))])
 .ret)))))⟩
theorem a10_ok : afn Try.prog 10 = some a10.er := by kernel_rfl
theorem F10_ok {x0 : TStore} {x1 : TOp} {r : Int × Int × Int × (List Object) × (List Object) × (List Change) × Object × Int} (h : F10 x0 x1 = some r) : CallD Try.prog 10 [.agg [.d (.v (.int .i64 x0.Rev)), .d (.v (.int .i64 x0.Floor)), .d (.v (.int .i64 x0.NextUid)), .d (.sl (x0.Base.map eObject)), .d (.sl (x0.Objects.map eObject)), .d (.sl (x0.History.map eChange))], .agg [.d (.v (.int .i64 x1.Kind)), .d (.v (.string x1.O.Meta.Kind)), .d (.v (.string x1.O.Meta.Namespace)), .d (.v (.string x1.O.Meta.Name)), .d (.v (.int .i64 x1.O.Meta.Uid)), .d (.v (.int .i64 x1.O.Meta.Version)), .d (.v (.int .i64 x1.O.Meta.Generation)), .d (.v (.int .i64 x1.O.Meta.Created)), .d (.v (.bool x1.O.Meta.Deleting)), .d (.v (.int .i64 x1.O.Meta.DeleteAt)), .d (.sl (x1.O.Meta.Labels.map eLabel)), .d (.sl (x1.O.Meta.Owners.map eOwner)), .d (.sl (x1.O.Meta.Finalizers.map eS)), .d (.sl (x1.O.Meta.Managers.map eManager)), .d (.v (.int .i64 x1.O.Spec.Kind)), .d (.v (.int .i64 x1.O.Spec.N)), .d (.v (.string x1.O.Spec.S)), .d (.sl (x1.O.Spec.List_.map eTValue)), .d (.sl (x1.O.Spec.Fields.map eTField)), .d (.v (.int .i64 x1.O.Status.Kind)), .d (.v (.int .i64 x1.O.Status.N)), .d (.v (.string x1.O.Status.S)), .d (.sl (x1.O.Status.List_.map eTValue)), .d (.sl (x1.O.Status.Fields.map eTField)), .d (.v (.string x1.Key)), .d (.v (.int .i64 x1.Version)), .d (.v (.int .i64 x1.Now)), .d (.v (.int .i64 x1.Rev))]] [] (tupV [.agg [.d (.v (.int .i64 r.1)), .d (.v (.int .i64 r.2.1)), .d (.v (.int .i64 r.2.2.1)), .own 0 0 0 (r.2.2.2.1.length) none, .own 1 0 0 (r.2.2.2.2.1.length) none, .own 2 0 0 (r.2.2.2.2.2.1.length) none], .agg [.d (.v (.string ((r.2.2.2.2.2.2.1).Meta.Kind))), .d (.v (.string ((r.2.2.2.2.2.2.1).Meta.Namespace))), .d (.v (.string ((r.2.2.2.2.2.2.1).Meta.Name))), .d (.v (.int .i64 ((r.2.2.2.2.2.2.1).Meta.Uid))), .d (.v (.int .i64 ((r.2.2.2.2.2.2.1).Meta.Version))), .d (.v (.int .i64 ((r.2.2.2.2.2.2.1).Meta.Generation))), .d (.v (.int .i64 ((r.2.2.2.2.2.2.1).Meta.Created))), .d (.v (.bool ((r.2.2.2.2.2.2.1).Meta.Deleting))), .d (.v (.int .i64 ((r.2.2.2.2.2.2.1).Meta.DeleteAt))), .d (.sl (((r.2.2.2.2.2.2.1).Meta.Labels).map eLabel)), .d (.sl (((r.2.2.2.2.2.2.1).Meta.Owners).map eOwner)), .d (.sl (((r.2.2.2.2.2.2.1).Meta.Finalizers).map eS)), .d (.sl (((r.2.2.2.2.2.2.1).Meta.Managers).map eManager)), .d (.v (.int .i64 ((r.2.2.2.2.2.2.1).Spec.Kind))), .d (.v (.int .i64 ((r.2.2.2.2.2.2.1).Spec.N))), .d (.v (.string ((r.2.2.2.2.2.2.1).Spec.S))), .d (.sl (((r.2.2.2.2.2.2.1).Spec.List_).map eTValue)), .d (.sl (((r.2.2.2.2.2.2.1).Spec.Fields).map eTField)), .d (.v (.int .i64 ((r.2.2.2.2.2.2.1).Status.Kind))), .d (.v (.int .i64 ((r.2.2.2.2.2.2.1).Status.N))), .d (.v (.string ((r.2.2.2.2.2.2.1).Status.S))), .d (.sl (((r.2.2.2.2.2.2.1).Status.List_).map eTValue)), .d (.sl (((r.2.2.2.2.2.2.1).Status.Fields).map eTField))], .c (.d (.v (.int .i64 r.2.2.2.2.2.2.2)))]) [some (.arr 0 23 (r.2.2.2.1.map eObject)), some (.arr 0 23 (r.2.2.2.2.1.map eObject)), some (.arr 0 25 (r.2.2.2.2.2.1.map eChange))] := by
 refine callS a10_ok (by simp [a10]) ?_
 rw [F10] at h
 simp only [a10, VW.down, Nat.reduceEqDiff, reduceCtorEq, Nat.reduceAdd, Nat.reduceLeDiff, Nat.reduceLT, Nat.reduceBEq, Nat.reduceSub, EE.down]
 obtain ⟨t1, ht1, h⟩ := bi h
 refine cN [] (F28_ok ht1) trivial ?_
 refine ww ?_
 refine condSh h (fun c2 h => ?_) (fun c2 h => ?_)
 ·refine ww ?_
  obtain ⟨t3, ht3, h⟩ := bi h
  refine cN [] (F25_ok ht3) trivial ?_
  refine ww ?_
  obtain rfl := Option.some.inj h
  exact eF [some 5, some 6, some 7]
 ·refine ww ?_
  refine condSh h (fun c4 h => ?_) (fun c4 h => ?_)
  ·refine ww ?_
   obtain ⟨t5, ht5, h⟩ := bi h
   refine cN [] (F12_ok ht5) trivial ?_
   refine ww ?_
   obtain rfl := Option.some.inj h
   exact eF [some 5, some 6, some 7]
  ·refine ww ?_
   refine condSh h (fun c6 h => ?_) (fun c6 h => ?_)
   ·refine ww ?_
    obtain ⟨t7, ht7, h⟩ := bi h
    refine cN [] (F27_ok ht7) trivial ?_
    refine ww ?_
    obtain rfl := Option.some.inj h
    exact eF [some 5, some 6, some 7]
   ·refine ww ?_
    obtain ⟨t8, ht8, h⟩ := bi h
    refine cN [] (F19_ok ht8) trivial ?_
    refine ww ?_
    obtain rfl := Option.some.inj h
    exact eF [some 5, some 6, some 7]

/- orchestrator/orchestratorlaw14.Play -/
def F14_l2  : List TOp → Nat → Int → Int → Int → (List Object) → (List Object) → (List Change) → Option (TStore)
  | [], o2_6, o2_0, o2_1, o2_2, o2_3, o2_4, o2_5 => some ((⟨o2_0, o2_1, o2_2, o2_3, o2_4, o2_5⟩ : TStore))
  | xo2 :: xs, o2_6, o2_0, o2_1, o2_2, o2_3, o2_4, o2_5 => (F10 ((⟨o2_0, o2_1, o2_2, o2_3, o2_4, o2_5⟩ : TStore)) xo2).bind fun t4 => F14_l2  xs (o2_6 + 1) t4.1 t4.2.1 t4.2.2.1 t4.2.2.2.1 t4.2.2.2.2.1 t4.2.2.2.2.2.1
def F14 (x0 : (List TOp)) : Option (TStore) := (F9).bind fun t1 => (((ck (0 ≤ x0.length ∧ x0.length ≤ 4294967290)).bind fun u5 => F14_l2 x0 0 0 0 1 ([]) ([]) ([])).bind fun o2 => some ((⟨(o2).Rev, (o2).Floor, (o2).NextUid, (o2).Base, (o2).Objects, (o2).History⟩ : TStore)))
def a14 : AFn := ⟨23, [(.cell 2 (some 6))],
 (.seq (.reg [⟨(some 2), none, .zbox [.d (.v (.int .i64 0)), .d (.v (.int .i64 0)), .d (.v (.int .i64 0)), .d (.v (.slice none 0 0)), .d (.v (.slice none 0 0)), .d (.v (.slice none 0 0))], [], (.lone [])⟩])
 (.seq (.reg [sq 5 (.call 9 []),
sq 3 (.zbox [.d (.v (.int .i64 0)), .d (.v (.int .i64 0)), .d (.v (.int .i64 0)), .d (.v (.slice none 0 0)), .d (.v (.slice none 0 0)), .d (.v (.slice none 0 0))]),
su (.store 6 (.t 3) (.t 5))])
 (.seq (.seq (.reg [sq 4 (.mv (kI 0))])
 (.sem (.block 0 (.loop (.seq (.seq (.reg [sq 6 (.mv (.t 4)),
sq 7 (.mv (.t 0)),
sq 8 (.len (.t 7)),
sq 9 (.bin .lss (.t 6) (.t 8))])
 (.cond (.t 9)
 .skip
 (.exit 0)))
 (.seq (.block 1 (.regd [sq 13 (.load (some 6) (.t 3)),
sq 14 (.mv (.t 0)),
sq 15 (.mv (.t 4)),
sd 16 (.indexA 28 (.t 14) (.t 15)) [1, 2],
sd 17 (.load (some 28) (.t 16)) [1, 2, 3],
⟨(some 18), none, .call 10 [(.t 13), (.t 17)], [0, 1, 2, 3, 4], (.lone [])⟩,
sd 12 (.mv (.t 18)) [0, 1, 2, 3, 4, 5],
sd 19 (.ext (.t 12) 0) [0, 1, 2, 3, 4, 5, 6],
sd 20 (.ext (.t 12) 1) [0, 1, 2, 3, 4, 5, 6],
sd 21 (.ext (.t 12) 2) [0, 1, 2, 3, 4, 5, 6],
⟨none, none, .store 6 (.t 3) (.t 19), [0, 1, 2, 3, 4, 5, 6, 7], (.lone [])⟩]))
 (.reg [sq 10 (.mv (.t 4)),
sq 11 (.bin .add (.t 10) (kI 1)),
sq 4 (.mv (.t 11))])))))))
 (.seq (.reg [sq 22 (.load (some 6) (.t 3)),
⟨none, none, .store 6 (.t 2) (.t 22), [], (.lone [3])⟩])
 .ret))))⟩
theorem a14_ok : afn Try.prog 14 = some a14.er := by kernel_rfl
theorem F14_ok {x0 : (List TOp)} {r : TStore} (h : F14 x0 = some r) : CallD Try.prog 14 [.c (.d (.sl (x0.map eTOp)))] [] (tupV [.agg [.d (.v (.int .i64 ((r).Rev))), .d (.v (.int .i64 ((r).Floor))), .d (.v (.int .i64 ((r).NextUid))), .d (.sl (((r).Base).map eObject)), .d (.sl (((r).Objects).map eObject)), .d (.sl (((r).History).map eChange))]]) [] := by
 refine callS a14_ok (by simp [a14]) ?_
 rw [F14] at h
 simp only [a14, VW.down, Nat.reduceEqDiff, reduceCtorEq, Nat.reduceAdd, Nat.reduceLeDiff, Nat.reduceLT, Nat.reduceBEq, Nat.reduceSub, EE.down]
 obtain ⟨t1, ht1, h⟩ := bi h
 refine cN [] (F9_ok ht1) trivial ?_
 refine ww ?_
 obtain ⟨o2, ho, h⟩ := bi h
 refine cutS (fun s => s = ⟨[(2, .one (.c (.pt 0 0))), (3, .one (.c (.pt 1 0)))], [some (.box [.d (.v (.int .i64 0)), .d (.v (.int .i64 0)), .d (.v (.int .i64 0)), .d (.v (.slice none 0 0)), .d (.v (.slice none 0 0)), .d (.v (.slice none 0 0))]), some (.box [.d (.v (.int .i64 ((o2).Rev))), .d (.v (.int .i64 ((o2).Floor))), .d (.v (.int .i64 ((o2).NextUid))), .d (.sl (((o2).Base).map eObject)), .d (.sl (((o2).Objects).map eObject)), .d (.sl (((o2).History).map eChange))])]⟩) ?_ ?_
 ·have h := ho
  clear ho
  obtain ⟨_, hk, h⟩ := bi h
  have hk := ck_some hk
  refine ww ?_
  refine bL (fun j s => ∃ (o2_6 : Nat) (o2_0 : Int) (o2_1 : Int) (o2_2 : Int) (o2_3 : List Object) (o2_4 : List Object) (o2_5 : List Change), (o2_6 ≤ x0.length ∧ j = x0.length - o2_6) ∧ s = ⟨[(0, .one (.c (.d (.sl (x0.map eTOp))))), (2, .one (.c (.pt 0 0))), (3, .one (.c (.pt 1 0))), (4, .one (.c (.d (.v (.int .i64 ((o2_6 : Int)))))))], [some (.box [.d (.v (.int .i64 0)), .d (.v (.int .i64 0)), .d (.v (.int .i64 0)), .d (.v (.slice none 0 0)), .d (.v (.slice none 0 0)), .d (.v (.slice none 0 0))]), some (.box [.d (.v (.int .i64 o2_0)), .d (.v (.int .i64 o2_1)), .d (.v (.int .i64 o2_2)), .d (.sl (o2_3.map eObject)), .d (.sl (o2_4.map eObject)), .d (.sl (o2_5.map eChange))])]⟩ ∧ F14_l2 (x0.drop o2_6) o2_6 o2_0 o2_1 o2_2 o2_3 o2_4 o2_5 = some o2) (x0.length - 0) [some 0, some 1] ⟨0, 0, 0, 1, [], [], [], ⟨hk.1, rfl⟩, rfl, h⟩ ?_
  rintro _ _ ⟨o2_6, o2_0, o2_1, o2_2, o2_3, o2_4, o2_5, ⟨hi, rfl⟩, rfl, h⟩
  refine ww ?_
  refine condS (fun c3 => ?_) (fun c3 => ?_)
  ·obtain ⟨xo2, hxo2, hd⟩ := countY (show (o2_6 : Int) < (x0.length : Int) from c3)
   rw [hd, F14_l2] at h
   refine ww ?_
   refine t_idxF (enc := eTOp) (xs := x0) rfl rfl hxo2 rfl ?_
   refine ww ?_
   obtain ⟨t4, ht4, h⟩ := bi h
   refine cN [] (F10_ok ht4) trivial ?_
   refine ww ?_
   rw [wrapN (by omega)]
   exact eL' (x0.length - (o2_6 + 1)) [some 0, some 1] ⟨o2_6 + 1, t4.1, t4.2.1, t4.2.2.1, t4.2.2.2.1, t4.2.2.2.2.1, t4.2.2.2.2.2.1, ⟨by omega, rfl⟩, rfl, h⟩ (by omega)
  ·rw [countN (show ¬ ((o2_6 : Int) < (x0.length : Int)) from c3), F14_l2] at h
   refine ww ?_
   obtain rfl := Option.some.inj h
   exact eM [some 0, some 1] rfl
 ·rintro _ rfl
  clear ho
  refine ww ?_
  obtain rfl := Option.some.inj h
  exact eF []

/- orchestrator/label.Get -/
def F74_l1 (x1 : ByteArray) : List Label → Nat → Option ((ByteArray × Bool) ⊕ (Unit))
  | [], o1_0 => some (Sum.inr (()))
  | xo1 :: xs, o1_0 => (if xo1.Key = x1 then (some ((xo1.Value, true))).map Sum.inl else F74_l1 x1 xs (o1_0 + 1))
def F74 (x0 : (List Label)) (x1 : ByteArray) : Option (ByteArray × Bool) := (((ck (0 ≤ x0.length ∧ x0.length ≤ 4294967290)).bind fun u4 => F74_l1 x1 x0 0 : Option ((ByteArray × Bool) ⊕ (Unit))).bind fun o1 => match o1 with | Sum.inl f => some f | Sum.inr po1 => some (((⟨#[]⟩ : ByteArray), false)))
def a74 : AFn := ⟨21, [(.tmp 4), (.tmp 5)],
 (.seq (.reg [sq 4 (.mv (kS ⟨#[]⟩)),
sq 5 (.mv (kB false))])
 (.seq (.seq (.reg [sq 8 (.mv (.t 0)),
sq 9 (.len (.t 8)),
sq 10 (.mv (kI 0))])
 (.sem (.block 0 (.loop (.seq (.reg [sq 11 (.bin .lss (.t 10) (.t 9))])
 (.seq (.cond (.t 11)
 .skip
 (.exit 0))
 (.seq (.block 1 (.seq (.reg [sq 12 (.indexA 2 (.t 8) (.t 10)),
sq 13 (.load (some 2) (.t 12)),
sq 7 (.zbox [.d (.v (.string ⟨#[]⟩)), .d (.v (.string ⟨#[]⟩))]),
su (.store 2 (.t 7) (.t 13))])
 (.seq (.reg [sq 14 (.fieldA 0 (.t 7)),
sq 15 (.load none (.t 14)),
sq 16 (.mv (.t 1)),
sq 17 (.bin .eql (.t 15) (.t 16))])
 (.cond (.t 17)
 (.seq (.reg [sq 18 (.fieldA 1 (.t 7)),
sq 19 (.load none (.t 18)),
sq 4 (.mv (.t 19)),
sq 5 (.mv (kB true))])
 .ret)
 .skip))))
 (.reg [sq 20 (.bin .add (.t 10) (kI 1)),
sq 10 (.mv (.t 20))]))))))))
 (.seq (.reg [sq 4 (.mv (kS ⟨#[]⟩)),
sq 5 (.mv (kB false))])
 .ret)))⟩
theorem a74_ok : afn Try.prog 74 = some a74.er := by kernel_rfl
theorem F74_ok {x0 : (List Label)} {x1 : ByteArray} {r : ByteArray × Bool} (h : F74 x0 x1 = some r) : CallD Try.prog 74 [.c (.d (.sl (x0.map eLabel))), .c (.d (.v (.string x1)))] [] (tupV [.c (.d (.v (.string r.1))), .c (.d (.v (.bool r.2)))]) [] := by
 refine callS a74_ok (by simp [a74]) ?_
 rw [F74] at h
 simp only [a74, VW.down, Nat.reduceEqDiff, reduceCtorEq, Nat.reduceAdd, Nat.reduceLeDiff, Nat.reduceLT, Nat.reduceBEq, Nat.reduceSub, EE.down]
 obtain ⟨o1, ho, h⟩ := bi h
 refine cutS (fun s => ∃ po1, o1 = Sum.inr po1 ∧ s = ⟨[], []⟩) ?_ ?_
 ·have h0o1 := h
  have h := ho
  clear ho
  obtain ⟨_, hk, h⟩ := bi h
  have hk := ck_some hk
  refine ww ?_
  refine bL (fun j s => ∃ (o1_0 : Nat), (o1_0 ≤ x0.length ∧ j = x0.length - o1_0) ∧ s = ⟨[(1, .one (.c (.d (.v (.string x1))))), (8, .one (.c (.d (.sl (x0.map eLabel))))), (9, .one (.c (.d (.v (.int .i64 ((x0.length : Int))))))), (10, .one (.c (.d (.v (.int .i64 ((o1_0 : Int)))))))], []⟩ ∧ F74_l1 x1 (x0.drop o1_0) o1_0 = some o1) (x0.length - 0) [] ⟨0, ⟨hk.1, rfl⟩, rfl, h⟩ ?_
  rintro _ _ ⟨o1_0, ⟨hi, rfl⟩, rfl, h⟩
  refine ww ?_
  refine condS (fun c2 => ?_) (fun c2 => ?_)
  ·obtain ⟨xo1, hxo1, hd⟩ := countY (show (o1_0 : Int) < (x0.length : Int) from c2)
   rw [hd, F74_l1] at h
   refine ww ?_
   refine t_idxF (enc := eLabel) (xs := x0) rfl rfl hxo1 rfl ?_
   refine ww ?_
   refine condSh h (fun c3 h => ?_) (fun c3 h => ?_)
   ·refine ww ?_
    obtain ⟨fh0o1, hfh0o1, rfl⟩ := Option.map_eq_some_iff.1 h
    have h := hfh0o1.trans h0o1
    obtain rfl := Option.some.inj h
    exact eF []
   ·refine ww ?_
    rw [wrapN (by omega)]
    exact eL' (x0.length - (o1_0 + 1)) [] ⟨o1_0 + 1, ⟨by omega, rfl⟩, rfl, h⟩ (by omega)
  ·rw [countN (show ¬ ((o1_0 : Int) < (x0.length : Int)) from c2), F74_l1] at h
   refine ww ?_
   obtain rfl := Option.some.inj h
   exact eM [] ⟨_, rfl, rfl⟩
 ·rintro _ ⟨po1, rfl, rfl⟩
  clear ho
  dsimp only at h
  refine ww ?_
  obtain rfl := Option.some.inj h
  exact eF []

/- slices.Index[[]string,string] -/
def F98_l1 (x1 : ByteArray) : List ByteArray → Nat → Option ((Int) ⊕ (Unit))
  | [], o1_0 => some (Sum.inr (()))
  | xo1 :: xs, o1_0 => (if x1 = xo1 then (some ((o1_0 : Int))).map Sum.inl else F98_l1 x1 xs (o1_0 + 1))
def F98 (x0 : (List ByteArray)) (x1 : ByteArray) : Option (Int) := (((ck (0 ≤ x0.length ∧ x0.length ≤ 4294967290)).bind fun u4 => F98_l1 x1 x0 0 : Option ((Int) ⊕ (Unit))).bind fun o1 => match o1 with | Sum.inl f => some f | Sum.inr po1 => some ((-1)))
def a98 : AFn := ⟨19, [(.tmp 4)],
 (.seq (.reg [sq 4 (.mv (kI 0))])
 (.seq (.seq (.reg [sq 6 (.mv (.t 0)),
sq 7 (.len (.t 6)),
sq 8 (.mv (kI 0))])
 (.sem (.block 0 (.loop (.seq (.reg [sq 9 (.bin .lss (.t 8) (.t 7))])
 (.seq (.cond (.t 9)
 .skip
 (.exit 0))
 (.seq (.block 1 (.seq (.reg [sq 10 (.mv (.t 8)),
sq 5 (.mv (.t 10))])
 (.seq (.reg [sq 11 (.mv (.t 1)),
sq 12 (.mv (.t 0)),
sq 13 (.mv (.t 5)),
sq 14 (.indexA 1 (.t 12) (.t 13)),
sq 15 (.load none (.t 14)),
sq 16 (.bin .eql (.t 11) (.t 15))])
 (.cond (.t 16)
 (.seq (.reg [sq 17 (.mv (.t 5)),
sq 4 (.mv (.t 17))])
 .ret)
 .skip))))
 (.reg [sq 18 (.bin .add (.t 8) (kI 1)),
sq 8 (.mv (.t 18))]))))))))
 (.seq (.reg [sq 4 (.mv (kI (-1)))])
 .ret)))⟩
theorem a98_ok : afn Try.prog 98 = some a98.er := by kernel_rfl
theorem F98_ok {x0 : (List ByteArray)} {x1 : ByteArray} {r : Int} (h : F98 x0 x1 = some r) : CallD Try.prog 98 [.c (.d (.sl (x0.map eS))), .c (.d (.v (.string x1)))] [] (tupV [.c (.d (.v (.int .i64 r)))]) [] := by
 refine callS a98_ok (by simp [a98]) ?_
 rw [F98] at h
 simp only [a98, VW.down, Nat.reduceEqDiff, reduceCtorEq, Nat.reduceAdd, Nat.reduceLeDiff, Nat.reduceLT, Nat.reduceBEq, Nat.reduceSub, EE.down]
 obtain ⟨o1, ho, h⟩ := bi h
 refine cutS (fun s => ∃ po1, o1 = Sum.inr po1 ∧ s = ⟨[], []⟩) ?_ ?_
 ·have h0o1 := h
  have h := ho
  clear ho
  obtain ⟨_, hk, h⟩ := bi h
  have hk := ck_some hk
  refine ww ?_
  refine bL (fun j s => ∃ (o1_0 : Nat), (o1_0 ≤ x0.length ∧ j = x0.length - o1_0) ∧ s = ⟨[(0, .one (.c (.d (.sl (x0.map eS))))), (1, .one (.c (.d (.v (.string x1))))), (7, .one (.c (.d (.v (.int .i64 ((x0.length : Int))))))), (8, .one (.c (.d (.v (.int .i64 ((o1_0 : Int)))))))], []⟩ ∧ F98_l1 x1 (x0.drop o1_0) o1_0 = some o1) (x0.length - 0) [] ⟨0, ⟨hk.1, rfl⟩, rfl, h⟩ ?_
  rintro _ _ ⟨o1_0, ⟨hi, rfl⟩, rfl, h⟩
  refine ww ?_
  refine condS (fun c2 => ?_) (fun c2 => ?_)
  ·obtain ⟨xo1, hxo1, hd⟩ := countY (show (o1_0 : Int) < (x0.length : Int) from c2)
   rw [hd, F98_l1] at h
   refine ww ?_
   refine t_idxF (enc := eS) (xs := x0) rfl rfl hxo1 rfl ?_
   refine ww ?_
   refine condSh h (fun c3 h => ?_) (fun c3 h => ?_)
   ·refine ww ?_
    obtain ⟨fh0o1, hfh0o1, rfl⟩ := Option.map_eq_some_iff.1 h
    have h := hfh0o1.trans h0o1
    obtain rfl := Option.some.inj h
    exact eF []
   ·refine ww ?_
    rw [wrapN (by omega)]
    exact eL' (x0.length - (o1_0 + 1)) [] ⟨o1_0 + 1, ⟨by omega, rfl⟩, rfl, h⟩ (by omega)
  ·rw [countN (show ¬ ((o1_0 : Int) < (x0.length : Int)) from c2), F98_l1] at h
   refine ww ?_
   obtain rfl := Option.some.inj h
   exact eM [] ⟨_, rfl, rfl⟩
 ·rintro _ ⟨po1, rfl, rfl⟩
  clear ho
  dsimp only at h
  refine ww ?_
  obtain rfl := Option.some.inj h
  exact eF []

/- slices.Contains[[]string,string] -/
def F75 (x0 : (List ByteArray)) (x1 : ByteArray) : Option (Bool) := (F98 x0 x1).bind fun t1 => some (decide (0 ≤ t1))
def a75 : AFn := ⟨9, [(.tmp 4)],
 (.seq (.reg [sq 4 (.mv (kB false))])
 (.seq (.reg [sq 5 (.mv (.t 0)),
sq 6 (.mv (.t 1)),
sq 7 (.call 98 [(.t 5), (.t 6)]),
sq 8 (.bin .geq (.t 7) (kI 0)),
sq 4 (.mv (.t 8))])
 .ret))⟩
theorem a75_ok : afn Try.prog 75 = some a75.er := by kernel_rfl
theorem F75_ok {x0 : (List ByteArray)} {x1 : ByteArray} {r : Bool} (h : F75 x0 x1 = some r) : CallD Try.prog 75 [.c (.d (.sl (x0.map eS))), .c (.d (.v (.string x1)))] [] (tupV [.c (.d (.v (.bool r)))]) [] := by
 refine callS a75_ok (by simp [a75]) ?_
 rw [F75] at h
 simp only [a75, VW.down, Nat.reduceEqDiff, reduceCtorEq, Nat.reduceAdd, Nat.reduceLeDiff, Nat.reduceLT, Nat.reduceBEq, Nat.reduceSub, EE.down]
 obtain ⟨t1, ht1, h⟩ := bi h
 refine cN [] (F98_ok ht1) trivial ?_
 refine ww ?_
 obtain rfl := Option.some.inj h
 exact eF []

/- orchestrator/label.holds -/
def F52 (x0 : Requirement) (x1 : (List Label)) : Option (Bool) := (F74 x1 x0.Key).bind fun t1 => (if x0.Op = 1 then (((if t1.2 = true then (F75 x0.Values t1.1).bind fun t5 => some t5 else some false)).bind fun o3 => some o3) else (if x0.Op = 2 then (((if (nb t1.2) = true then some true else (F75 x0.Values t1.1).bind fun t9 => some (nb t9))).bind fun o7 => some o7) else (if x0.Op = 3 then some t1.2 else (if x0.Op = 4 then some (nb t1.2) else some false))))
def a52 : AFn := ⟨43, [(.tmp 4)],
 (.seq (.reg [sq 2 (.box (.t 0)),
sq 4 (.mv (kB false))])
 (.seq (.reg [sq 8 (.mv (.t 1)),
sq 9 (.fieldA 0 (.t 2)),
sq 10 (.load none (.t 9)),
sq 11 (.call 74 [(.t 8), (.t 10)]),
sq 7 (.mv (.t 11)),
sq 12 (.ext (.t 7) 0),
sq 13 (.ext (.t 7) 1),
sq 5 (.mv (.t 12)),
sq 6 (.mv (.t 13))])
 (.seq (.seq (.reg [sq 14 (.fieldA 1 (.t 2)),
sq 15 (.load none (.t 14))])
 (.block 0 (.seq (.reg [sq 17 (.bin .eql (.t 15) (kI 1)),
sq 16 (.mv (.t 17))])
 (.cond (.t 16)
 (.seq (.sem (.reg [sq 18 (.mv (.t 6)),
sq 19 (.mv (.t 18)),
⟨(some 20), (some (19, true)), .fieldA 2 (.t 2), [], (.new [])⟩,
⟨(some 21), (some (19, true)), .load none (.t 20), [], (.new [])⟩,
⟨(some 22), (some (19, true)), .mv (.t 5), [], (.new [])⟩,
⟨(some 23), (some (19, true)), .call 75 [(.t 21), (.t 22)], [], (.new [])⟩,
sq 24 (.pick (.t 19) (.t 23) (kB false)),
sq 4 (.mv (.t 24))]))
 .ret)
 (.seq (.reg [sq 26 (.bin .eql (.t 15) (kI 2)),
sq 25 (.mv (.t 26))])
 (.cond (.t 25)
 (.seq (.sem (.reg [sq 27 (.mv (.t 6)),
sq 28 (.not (.t 27)),
sq 29 (.mv (.t 28)),
⟨(some 30), (some (29, false)), .fieldA 2 (.t 2), [], (.new [])⟩,
⟨(some 31), (some (29, false)), .load none (.t 30), [], (.new [])⟩,
⟨(some 32), (some (29, false)), .mv (.t 5), [], (.new [])⟩,
⟨(some 33), (some (29, false)), .call 75 [(.t 31), (.t 32)], [], (.new [])⟩,
⟨(some 34), (some (29, false)), .not (.t 33), [], (.new [])⟩,
sq 35 (.pick (.t 29) (kB true) (.t 34)),
sq 4 (.mv (.t 35))]))
 .ret)
 (.seq (.reg [sq 37 (.bin .eql (.t 15) (kI 3)),
sq 36 (.mv (.t 37))])
 (.cond (.t 36)
 (.seq (.reg [sq 38 (.mv (.t 6)),
sq 4 (.mv (.t 38))])
 .ret)
 (.seq (.reg [sq 40 (.bin .eql (.t 15) (kI 4)),
sq 39 (.mv (.t 40))])
 (.cond (.t 39)
 (.seq (.reg [sq 41 (.mv (.t 6)),
sq 42 (.not (.t 41)),
sq 4 (.mv (.t 42))])
 .ret)
 .skip))))))))))
 (.seq (.reg [sq 4 (.mv (kB false))])
 .ret))))⟩
theorem a52_ok : afn Try.prog 52 = some a52.er := by kernel_rfl
theorem F52_ok {x0 : Requirement} {x1 : (List Label)} {r : Bool} (h : F52 x0 x1 = some r) : CallD Try.prog 52 [.agg [.d (.v (.string x0.Key)), .d (.v (.int .i64 x0.Op)), .d (.sl (x0.Values.map eS))], .c (.d (.sl (x1.map eLabel)))] [] (tupV [.c (.d (.v (.bool r)))]) [] := by
 refine callS a52_ok (by simp [a52]) ?_
 rw [F52] at h
 simp only [a52, VW.down, Nat.reduceEqDiff, reduceCtorEq, Nat.reduceAdd, Nat.reduceLeDiff, Nat.reduceLT, Nat.reduceBEq, Nat.reduceSub, EE.down]
 obtain ⟨t1, ht1, h⟩ := bi h
 refine cN [] (F74_ok ht1) trivial ?_
 refine ww ?_
 refine condSh h (fun c2 h => ?_) (fun c2 h => ?_)
 ·refine ww ?_
  obtain ⟨o3, ho, h⟩ := bi h
  refine cutS (fun s => s = ⟨[(4, .one (.c (.d (.v (.bool o3)))))], []⟩) ?_ ?_
  ·have h := ho
   clear ho
   refine ww ?_
   refine guardSBh h (fun g4 h => ?_) (fun g4 h => ?_)
   ·refine ww ?_
    obtain ⟨t5, ht5, h⟩ := bi h
    refine cN [] (F75_ok ht5) trivial ?_
    refine ww ?_
    obtain rfl := Option.some.inj h
    exact eM [] rfl
   ·refine ww ?_
    obtain rfl := Option.some.inj h
    exact eM [] rfl
  ·rintro _ rfl
   clear ho
   refine ww ?_
   obtain rfl := Option.some.inj h
   exact eF []
 ·refine ww ?_
  refine condSh h (fun c6 h => ?_) (fun c6 h => ?_)
  ·refine ww ?_
   obtain ⟨o7, ho, h⟩ := bi h
   refine cutS (fun s => s = ⟨[(4, .one (.c (.d (.v (.bool o7)))))], []⟩) ?_ ?_
   ·have h := ho
    clear ho
    refine ww ?_
    refine guardSBh h (fun g8 h => ?_) (fun g8 h => ?_)
    ·refine ww ?_
     obtain rfl := Option.some.inj h
     exact eM [] rfl
    ·refine ww ?_
     obtain ⟨t9, ht9, h⟩ := bi h
     refine cN [] (F75_ok ht9) trivial ?_
     refine ww ?_
     obtain rfl := Option.some.inj h
     exact eM [] rfl
   ·rintro _ rfl
    clear ho
    refine ww ?_
    obtain rfl := Option.some.inj h
    exact eF []
  ·refine ww ?_
   refine condSh h (fun c10 h => ?_) (fun c10 h => ?_)
   ·refine ww ?_
    obtain rfl := Option.some.inj h
    exact eF []
   ·refine ww ?_
    refine condSh h (fun c11 h => ?_) (fun c11 h => ?_)
    ·refine ww ?_
     obtain rfl := Option.some.inj h
     exact eF []
    ·refine ww ?_
     obtain rfl := Option.some.inj h
     exact eF []

/- orchestrator/label.Matches -/
def F23_l1 (x1 : (List Label)) : List Requirement → Nat → Option ((Bool) ⊕ (Unit))
  | [], o1_0 => some (Sum.inr (()))
  | xo1 :: xs, o1_0 => (F52 xo1 x1).bind fun t3 => (if (nb t3) = true then (some false).map Sum.inl else F23_l1 x1 xs (o1_0 + 1))
def F23 (x0 : (List Requirement)) (x1 : (List Label)) : Option (Bool) := (((ck (0 ≤ x0.length ∧ x0.length ≤ 4294967290)).bind fun u5 => F23_l1 x1 x0 0 : Option ((Bool) ⊕ (Unit))).bind fun o1 => match o1 with | Sum.inl f => some f | Sum.inr po1 => some true)
def a23 : AFn := ⟨18, [(.tmp 4)],
 (.seq (.reg [sq 4 (.mv (kB false))])
 (.seq (.seq (.reg [sq 7 (.mv (.t 0)),
sq 8 (.len (.t 7)),
sq 9 (.mv (kI 0))])
 (.sem (.block 0 (.loop (.seq (.reg [sq 10 (.bin .lss (.t 9) (.t 8))])
 (.seq (.cond (.t 10)
 .skip
 (.exit 0))
 (.seq (.block 1 (.seq (.reg [sq 11 (.indexA 3 (.t 7) (.t 9)),
sq 12 (.load (some 3) (.t 11)),
sq 6 (.zbox [.d (.v (.string ⟨#[]⟩)), .d (.v (.int .i64 0)), .d (.v (.slice none 0 0))]),
su (.store 3 (.t 6) (.t 12))])
 (.seq (.reg [sq 13 (.load (some 3) (.t 6)),
sq 14 (.mv (.t 1)),
sq 15 (.call 52 [(.t 13), (.t 14)]),
sq 16 (.not (.t 15))])
 (.cond (.t 16)
 (.seq (.reg [sq 4 (.mv (kB false))])
 .ret)
 .skip))))
 (.reg [sq 17 (.bin .add (.t 9) (kI 1)),
sq 9 (.mv (.t 17))]))))))))
 (.seq (.reg [sq 4 (.mv (kB true))])
 .ret)))⟩
theorem a23_ok : afn Try.prog 23 = some a23.er := by kernel_rfl
theorem F23_ok {x0 : (List Requirement)} {x1 : (List Label)} {r : Bool} (h : F23 x0 x1 = some r) : CallD Try.prog 23 [.c (.d (.sl (x0.map eRequirement))), .c (.d (.sl (x1.map eLabel)))] [] (tupV [.c (.d (.v (.bool r)))]) [] := by
 refine callS a23_ok (by simp [a23]) ?_
 rw [F23] at h
 simp only [a23, VW.down, Nat.reduceEqDiff, reduceCtorEq, Nat.reduceAdd, Nat.reduceLeDiff, Nat.reduceLT, Nat.reduceBEq, Nat.reduceSub, EE.down]
 obtain ⟨o1, ho, h⟩ := bi h
 refine cutS (fun s => ∃ po1, o1 = Sum.inr po1 ∧ s = ⟨[], []⟩) ?_ ?_
 ·have h0o1 := h
  have h := ho
  clear ho
  obtain ⟨_, hk, h⟩ := bi h
  have hk := ck_some hk
  refine ww ?_
  refine bL (fun j s => ∃ (o1_0 : Nat), (o1_0 ≤ x0.length ∧ j = x0.length - o1_0) ∧ s = ⟨[(1, .one (.c (.d (.sl (x1.map eLabel))))), (7, .one (.c (.d (.sl (x0.map eRequirement))))), (8, .one (.c (.d (.v (.int .i64 ((x0.length : Int))))))), (9, .one (.c (.d (.v (.int .i64 ((o1_0 : Int)))))))], []⟩ ∧ F23_l1 x1 (x0.drop o1_0) o1_0 = some o1) (x0.length - 0) [] ⟨0, ⟨hk.1, rfl⟩, rfl, h⟩ ?_
  rintro _ _ ⟨o1_0, ⟨hi, rfl⟩, rfl, h⟩
  refine ww ?_
  refine condS (fun c2 => ?_) (fun c2 => ?_)
  ·obtain ⟨xo1, hxo1, hd⟩ := countY (show (o1_0 : Int) < (x0.length : Int) from c2)
   rw [hd, F23_l1] at h
   refine ww ?_
   refine t_idxF (enc := eRequirement) (xs := x0) rfl rfl hxo1 rfl ?_
   refine ww ?_
   obtain ⟨t3, ht3, h⟩ := bi h
   refine cN [] (F52_ok ht3) trivial ?_
   refine ww ?_
   refine condBh h (fun c4 h => ?_) (fun c4 h => ?_)
   ·refine ww ?_
    obtain ⟨fh0o1, hfh0o1, rfl⟩ := Option.map_eq_some_iff.1 h
    have h := hfh0o1.trans h0o1
    obtain rfl := Option.some.inj h
    exact eF []
   ·refine ww ?_
    rw [wrapN (by omega)]
    exact eL' (x0.length - (o1_0 + 1)) [] ⟨o1_0 + 1, ⟨by omega, rfl⟩, rfl, h⟩ (by omega)
  ·rw [countN (show ¬ ((o1_0 : Int) < (x0.length : Int)) from c2), F23_l1] at h
   refine ww ?_
   obtain rfl := Option.some.inj h
   exact eM [] ⟨_, rfl, rfl⟩
 ·rintro _ ⟨po1, rfl, rfl⟩
  clear ho
  dsimp only at h
  refine ww ?_
  obtain rfl := Option.some.inj h
  exact eF []

/- orchestrator/store.selects -/
def F50 (x0 : Filter) (x1 : Object) : Option (Bool) := (((if x0.Kind = (⟨#[]⟩ : ByteArray) then (if x0.Namespace = (⟨#[]⟩ : ByteArray) then (F23 x0.Selector x1.Meta.Labels).bind fun t4 => some t4 else (if x0.Namespace = x1.Meta.Namespace then (F23 x0.Selector x1.Meta.Labels).bind fun t6 => some t6 else some false)) else (if x0.Kind = x1.Meta.Kind then (if x0.Namespace = (⟨#[]⟩ : ByteArray) then (F23 x0.Selector x1.Meta.Labels).bind fun t9 => some t9 else (if x0.Namespace = x1.Meta.Namespace then (F23 x0.Selector x1.Meta.Labels).bind fun t11 => some t11 else some false)) else some false))).bind fun o1 => some o1)
def a50 : AFn := ⟨37, [(.tmp 4)],
 (.seq (.reg [sq 2 (.box (.t 0)),
sq 3 (.box (.t 1)),
sq 4 (.mv (kB false))])
 (.seq (.sem (.reg [sq 5 (.fieldA 0 (.t 2)),
sq 6 (.load none (.t 5)),
sq 7 (.bin .eql (.t 6) (kS ⟨#[]⟩)),
sq 8 (.mv (.t 7)),
⟨(some 9), (some (8, false)), .fieldA 0 (.t 2), [], (.new [])⟩,
⟨(some 10), (some (8, false)), .load none (.t 9), [], (.new [])⟩,
⟨(some 11), (some (8, false)), .fieldA 0 (.t 3), [], (.new [])⟩,
⟨(some 12), (some (8, false)), .fieldA 0 (.t 11), [], (.new [])⟩,
⟨(some 13), (some (8, false)), .load none (.t 12), [], (.new [])⟩,
⟨(some 14), (some (8, false)), .bin .eql (.t 10) (.t 13), [], (.new [])⟩,
sq 15 (.pick (.t 8) (kB true) (.t 14)),
sq 16 (.mv (.t 15)),
⟨(some 17), (some (16, true)), .fieldA 1 (.t 2), [], (.new [])⟩,
⟨(some 18), (some (16, true)), .load none (.t 17), [], (.new [])⟩,
⟨(some 19), (some (16, true)), .bin .eql (.t 18) (kS ⟨#[]⟩), [], (.new [])⟩,
⟨(some 20), (some (16, true)), .mv (.t 19), [], (.new [])⟩,
⟨(some 21), (some (20, false)), .fieldA 1 (.t 2), [], (.new [])⟩,
⟨(some 22), (some (20, false)), .load none (.t 21), [], (.new [])⟩,
⟨(some 23), (some (20, false)), .fieldA 0 (.t 3), [], (.new [])⟩,
⟨(some 24), (some (20, false)), .fieldA 1 (.t 23), [], (.new [])⟩,
⟨(some 25), (some (20, false)), .load none (.t 24), [], (.new [])⟩,
⟨(some 26), (some (20, false)), .bin .eql (.t 22) (.t 25), [], (.new [])⟩,
⟨(some 27), (some (16, true)), .pick (.t 20) (kB true) (.t 26), [], (.new [])⟩,
sq 28 (.pick (.t 16) (.t 27) (kB false)),
sq 29 (.mv (.t 28)),
⟨(some 30), (some (29, true)), .fieldA 2 (.t 2), [], (.new [])⟩,
⟨(some 31), (some (29, true)), .load none (.t 30), [], (.new [])⟩,
⟨(some 32), (some (29, true)), .fieldA 0 (.t 3), [], (.new [])⟩,
⟨(some 33), (some (29, true)), .fieldA 9 (.t 32), [], (.new [])⟩,
⟨(some 34), (some (29, true)), .load none (.t 33), [], (.new [])⟩,
⟨(some 35), (some (29, true)), .call 23 [(.t 31), (.t 34)], [], (.new [])⟩,
sq 36 (.pick (.t 29) (.t 35) (kB false)),
sq 4 (.mv (.t 36))]))
 .ret))⟩
theorem a50_ok : afn Try.prog 50 = some a50.er := by kernel_rfl
theorem F50_ok {x0 : Filter} {x1 : Object} {r : Bool} (h : F50 x0 x1 = some r) : CallD Try.prog 50 [.agg [.d (.v (.string x0.Kind)), .d (.v (.string x0.Namespace)), .d (.sl (x0.Selector.map eRequirement))], .agg [.d (.v (.string x1.Meta.Kind)), .d (.v (.string x1.Meta.Namespace)), .d (.v (.string x1.Meta.Name)), .d (.v (.int .i64 x1.Meta.Uid)), .d (.v (.int .i64 x1.Meta.Version)), .d (.v (.int .i64 x1.Meta.Generation)), .d (.v (.int .i64 x1.Meta.Created)), .d (.v (.bool x1.Meta.Deleting)), .d (.v (.int .i64 x1.Meta.DeleteAt)), .d (.sl (x1.Meta.Labels.map eLabel)), .d (.sl (x1.Meta.Owners.map eOwner)), .d (.sl (x1.Meta.Finalizers.map eS)), .d (.sl (x1.Meta.Managers.map eManager)), .d (.v (.int .i64 x1.Spec.Kind)), .d (.v (.int .i64 x1.Spec.N)), .d (.v (.string x1.Spec.S)), .d (.sl (x1.Spec.List_.map eTValue)), .d (.sl (x1.Spec.Fields.map eTField)), .d (.v (.int .i64 x1.Status.Kind)), .d (.v (.int .i64 x1.Status.N)), .d (.v (.string x1.Status.S)), .d (.sl (x1.Status.List_.map eTValue)), .d (.sl (x1.Status.Fields.map eTField))]] [] (tupV [.c (.d (.v (.bool r)))]) [] := by
 refine callS a50_ok (by simp [a50]) ?_
 rw [F50] at h
 simp only [a50, VW.down, Nat.reduceEqDiff, reduceCtorEq, Nat.reduceAdd, Nat.reduceLeDiff, Nat.reduceLT, Nat.reduceBEq, Nat.reduceSub, EE.down]
 obtain ⟨o1, ho, h⟩ := bi h
 refine cutS (fun s => s = ⟨[(4, .one (.c (.d (.v (.bool o1)))))], []⟩) ?_ ?_
 ·have h := ho
  clear ho
  refine ww ?_
  refine guardSh h (fun g2 h => ?_) (fun g2 h => ?_)
  ·refine ww ?_
   refine guardSh h (fun g3 h => ?_) (fun g3 h => ?_)
   ·refine ww ?_
    obtain ⟨t4, ht4, h⟩ := bi h
    refine cN [] (F23_ok ht4) trivial ?_
    refine ww ?_
    obtain rfl := Option.some.inj h
    exact eM [] rfl
   ·refine ww ?_
    refine guardSh h (fun g5 h => ?_) (fun g5 h => ?_)
    ·refine ww ?_
     obtain ⟨t6, ht6, h⟩ := bi h
     refine cN [] (F23_ok ht6) trivial ?_
     refine ww ?_
     obtain rfl := Option.some.inj h
     exact eM [] rfl
    ·refine ww ?_
     obtain rfl := Option.some.inj h
     exact eM [] rfl
  ·refine ww ?_
   refine guardSh h (fun g7 h => ?_) (fun g7 h => ?_)
   ·refine ww ?_
    refine guardSh h (fun g8 h => ?_) (fun g8 h => ?_)
    ·refine ww ?_
     obtain ⟨t9, ht9, h⟩ := bi h
     refine cN [] (F23_ok ht9) trivial ?_
     refine ww ?_
     obtain rfl := Option.some.inj h
     exact eM [] rfl
    ·refine ww ?_
     refine guardSh h (fun g10 h => ?_) (fun g10 h => ?_)
     ·refine ww ?_
      obtain ⟨t11, ht11, h⟩ := bi h
      refine cN [] (F23_ok ht11) trivial ?_
      refine ww ?_
      obtain rfl := Option.some.inj h
      exact eM [] rfl
     ·refine ww ?_
      obtain rfl := Option.some.inj h
      exact eM [] rfl
   ·refine ww ?_
    obtain rfl := Option.some.inj h
    exact eM [] rfl
 ·rintro _ rfl
  clear ho
  refine ww ?_
  obtain rfl := Option.some.inj h
  exact eF []

/- orchestrator/store.List -/
def F20_l1 (x1 : Filter) : List Object → Nat → (List Object) → Option ((List Object))
  | [], o1_1, o1_0 => some o1_0
  | xo1 :: xs, o1_1, o1_0 => (((F50 x1 xo1).bind fun t4 => (if t4 = true then (F34 xo1).bind fun t6 => (apI o1_0 ([(⟨(⟨xo1.Meta.Kind, xo1.Meta.Namespace, xo1.Meta.Name, xo1.Meta.Uid, xo1.Meta.Version, xo1.Meta.Generation, xo1.Meta.Created, xo1.Meta.Deleting, xo1.Meta.DeleteAt, t6.1, t6.2.1, t6.2.2.1, t6.2.2.2.1⟩ : Meta), (⟨t6.2.2.2.2.1, t6.2.2.2.2.2.1, t6.2.2.2.2.2.2.1, t6.2.2.2.2.2.2.2.1, t6.2.2.2.2.2.2.2.2.1⟩ : TValue), (⟨t6.2.2.2.2.2.2.2.2.2.1, t6.2.2.2.2.2.2.2.2.2.2.1, t6.2.2.2.2.2.2.2.2.2.2.2.1, t6.2.2.2.2.2.2.2.2.2.2.2.2.1, t6.2.2.2.2.2.2.2.2.2.2.2.2.2⟩ : TValue)⟩ : Object)])).bind fun a7 => some a7 else some o1_0)).bind fun o3 => F20_l1 x1 xs (o1_1 + 1) o3)
def F20 (x0 : TStore) (x1 : Filter) : Option ((List Object)) := (((ck (0 ≤ x0.Objects.length ∧ x0.Objects.length ≤ 4294967290)).bind fun u8 => F20_l1 x1 x0.Objects 0 ([])).bind fun o1 => some o1)
def a20 : AFn := ⟨25, [(.tmp 4)],
 (.seq (.reg [sq 2 (.box (.t 0)),
sq 3 (.box (.t 1)),
sq 4 (.mv kN)])
 (.seq (.reg [sq 5 (.mv kN)])
 (.seq (.seq (.reg [sq 8 (.fieldA 4 (.t 2)),
sq 9 (.load none (.t 8)),
sq 10 (.len (.t 9)),
sq 11 (.mv (kI 0))])
 (.sem (.block 0 (.loop (.seq (.reg [sq 12 (.bin .lss (.t 11) (.t 10))])
 (.seq (.cond (.t 12)
 .skip
 (.exit 0))
 (.seq (.sem (.block 1 (.seq (.reg [sq 13 (.indexA 23 (.t 9) (.t 11)),
sq 14 (.load (some 23) (.t 13)),
sq 7 (.zbox [.d (.v (.string ⟨#[]⟩)), .d (.v (.string ⟨#[]⟩)), .d (.v (.string ⟨#[]⟩)), .d (.v (.int .i64 0)), .d (.v (.int .i64 0)), .d (.v (.int .i64 0)), .d (.v (.int .i64 0)), .d (.v (.bool false)), .d (.v (.int .i64 0)), .d (.v (.slice none 0 0)), .d (.v (.slice none 0 0)), .d (.v (.slice none 0 0)), .d (.v (.slice none 0 0)), .d (.v (.int .i64 0)), .d (.v (.int .i64 0)), .d (.v (.string ⟨#[]⟩)), .d (.v (.slice none 0 0)), .d (.v (.slice none 0 0)), .d (.v (.int .i64 0)), .d (.v (.int .i64 0)), .d (.v (.string ⟨#[]⟩)), .d (.v (.slice none 0 0)), .d (.v (.slice none 0 0))]),
su (.store 23 (.t 7) (.t 14))])
 (.seq (.reg [sq 15 (.load (some 3) (.t 3)),
sq 16 (.load (some 23) (.t 7)),
⟨(some 17), none, .call 50 [(.t 15), (.t 16)], [], (.lone [3, 7])⟩])
 (.cond (.t 17)
 (.reg [sq 18 (.mv (.t 5)),
sq 19 (.load (some 23) (.t 7)),
sq 20 (.call 34 [(.t 19)]),
sq 21 (.bslice 23 [(.t 20)]),
sq 22 (.app 23 352 (.t 18) (.t 21)),
sq 5 (.mv (.t 22))])
 .skip)))))
 (.reg [sq 23 (.bin .add (.t 11) (kI 1)),
sq 11 (.mv (.t 23))]))))))))
 (.seq (.reg [sq 24 (.mv (.t 5)),
sq 4 (.mv (.t 24))])
 .ret))))⟩
theorem a20_ok : afn Try.prog 20 = some a20.er := by kernel_rfl
theorem F20_ok {x0 : TStore} {x1 : Filter} {r : (List Object)} (h : F20 x0 x1 = some r) : CallD Try.prog 20 [.agg [.d (.v (.int .i64 x0.Rev)), .d (.v (.int .i64 x0.Floor)), .d (.v (.int .i64 x0.NextUid)), .d (.sl (x0.Base.map eObject)), .d (.sl (x0.Objects.map eObject)), .d (.sl (x0.History.map eChange))], .agg [.d (.v (.string x1.Kind)), .d (.v (.string x1.Namespace)), .d (.sl (x1.Selector.map eRequirement))]] [] (tupV [.c (.own 0 0 0 (r.length) none)]) [some (.arr 0 23 (r.map eObject))] := by
 refine callS a20_ok (by simp [a20]) ?_
 rw [F20] at h
 simp only [a20, VW.down, Nat.reduceEqDiff, reduceCtorEq, Nat.reduceAdd, Nat.reduceLeDiff, Nat.reduceLT, Nat.reduceBEq, Nat.reduceSub, EE.down]
 obtain ⟨o1, ho, h⟩ := bi h
 refine cutS (fun s => s = ⟨[(5, .one (.c (.own 0 0 0 (o1.length) none)))], [some (.arr 0 23 (o1.map eObject))]⟩) ?_ ?_
 ·have h := ho
  clear ho
  obtain ⟨_, hk, h⟩ := bi h
  have hk := ck_some hk
  refine ww ?_
  refine bL (fun j s => ∃ (o1_1 : Nat) (o1_0 : List Object), (o1_1 ≤ x0.Objects.length ∧ j = x0.Objects.length - o1_1) ∧ s = ⟨[(3, .one (.c (.pt 0 0))), (5, .one (.c (.own 1 0 0 (o1_0.length) none))), (9, .one (.c (.d (.sl (x0.Objects.map eObject))))), (10, .one (.c (.d (.v (.int .i64 ((x0.Objects.length : Int))))))), (11, .one (.c (.d (.v (.int .i64 ((o1_1 : Int)))))))], [some (.box [.d (.v (.string x1.Kind)), .d (.v (.string x1.Namespace)), .d (.sl (x1.Selector.map eRequirement))]), some (.arr 0 23 (o1_0.map eObject))]⟩ ∧ F20_l1 x1 (x0.Objects.drop o1_1) o1_1 o1_0 = some o1) (x0.Objects.length - 0) [some 1, none] ⟨0, [], ⟨hk.1, rfl⟩, rfl, h⟩ ?_
  rintro _ _ ⟨o1_1, o1_0, ⟨hi, rfl⟩, rfl, h⟩
  refine ww ?_
  refine condS (fun c2 => ?_) (fun c2 => ?_)
  ·obtain ⟨xo1, hxo1, hd⟩ := countY (show (o1_1 : Int) < (x0.Objects.length : Int) from c2)
   rw [hd, F20_l1] at h
   refine ww ?_
   obtain ⟨o3, ho, h⟩ := bi h
   refine cutS (fun s => s = ⟨[(3, .one (.c (.pt 0 0))), (5, .one (.c (.own 1 0 0 (o3.length) none))), (9, .one (.c (.d (.sl (x0.Objects.map eObject))))), (10, .one (.c (.d (.v (.int .i64 ((x0.Objects.length : Int))))))), (11, .one (.c (.d (.v (.int .i64 ((o1_1 : Int)))))))], [some (.box [.d (.v (.string x1.Kind)), .d (.v (.string x1.Namespace)), .d (.sl (x1.Selector.map eRequirement))]), some (.arr 0 23 (o3.map eObject))]⟩) ?_ ?_
   ·have h := ho
    clear ho
    refine ww ?_
    refine t_idxF (enc := eObject) (xs := x0.Objects) rfl rfl hxo1 rfl ?_
    refine ww ?_
    obtain ⟨t4, ht4, h⟩ := bi h
    refine cN [] (F50_ok ht4) trivial ?_
    refine ww ?_
    refine condBh h (fun c5 h => ?_) (fun c5 h => ?_)
    ·refine ww ?_
     obtain ⟨t6, ht6, h⟩ := bi h
     refine cN [] (F34_ok ht6) trivial ?_
     refine ww ?_
     refine t_bslice (enc := eObject) (ys := [(⟨(⟨xo1.Meta.Kind, xo1.Meta.Namespace, xo1.Meta.Name, xo1.Meta.Uid, xo1.Meta.Version, xo1.Meta.Generation, xo1.Meta.Created, xo1.Meta.Deleting, xo1.Meta.DeleteAt, t6.1, t6.2.1, t6.2.2.1, t6.2.2.2.1⟩ : Meta), (⟨t6.2.2.2.2.1, t6.2.2.2.2.2.1, t6.2.2.2.2.2.2.1, t6.2.2.2.2.2.2.2.1, t6.2.2.2.2.2.2.2.2.1⟩ : TValue), (⟨t6.2.2.2.2.2.2.2.2.2.1, t6.2.2.2.2.2.2.2.2.2.2.1, t6.2.2.2.2.2.2.2.2.2.2.2.1, t6.2.2.2.2.2.2.2.2.2.2.2.2.1, t6.2.2.2.2.2.2.2.2.2.2.2.2.2⟩ : TValue)⟩ : Object)]) rfl rfl (by simp [A1.cells]) (by first | rfl | (simp only [List.drop_zero, take_mapL]; rfl) | (simp only [lit, List.map_cons, List.map_nil, List.drop_zero, take_mapL, EE.down]; done) | (simp only [lit, List.map_cons, List.map_nil, List.drop_zero, take_mapL, EE.down]; rfl)) ?_
     refine ww ?_
     obtain ⟨a7, ha7, h⟩ := bi h
     refine t_app (enc := eObject) (xs := o1_0) rfl rfl (by first | rfl | simp only [List.length_set] | exact (clrL_len (slI_len (by assumption))).symm) rfl (rows_full (enc := eObject) (by first | rfl | simp only [List.length_set] | exact (clrL_len (slI_len (by assumption))).symm) rfl) ha7 ?_
     refine ww ?_
     obtain rfl := Option.some.inj h
     exact eM [some 0, some 1] rfl
    ·refine ww ?_
     obtain rfl := Option.some.inj h
     exact eM [some 0, some 1] rfl
   ·rintro _ rfl
    clear ho
    refine ww ?_
    rw [wrapN (by omega)]
    exact eL' (x0.Objects.length - (o1_1 + 1)) [some 0, some 1] ⟨o1_1 + 1, o3, ⟨by omega, rfl⟩, rfl, h⟩ (by omega)
  ·rw [countN (show ¬ ((o1_1 : Int) < (x0.Objects.length : Int)) from c2), F20_l1] at h
   refine ww ?_
   obtain rfl := Option.some.inj h
   exact eM [some 1] rfl
 ·rintro _ rfl
  clear ho
  refine ww ?_
  obtain rfl := Option.some.inj h
  exact eF [some 0]

/- orchestrator/orchestratorlaw14.keyOf -/
def F22 (x0 : Object) : Option (ByteArray) := (F33 x0.Meta).bind fun t1 => some t1
def a22 : AFn := ⟨6, [(.tmp 2)],
 (.seq (.reg [sq 1 (.box (.t 0)),
sq 2 (.mv (kS ⟨#[]⟩))])
 (.seq (.reg [sq 3 (.fieldA 0 (.t 1)),
sq 4 (.load (some 13) (.t 3)),
sq 5 (.call 33 [(.t 4)]),
sq 2 (.mv (.t 5))])
 .ret))⟩
theorem a22_ok : afn Try.prog 22 = some a22.er := by kernel_rfl
theorem F22_ok {x0 : Object} {r : ByteArray} (h : F22 x0 = some r) : CallD Try.prog 22 [.agg [.d (.v (.string x0.Meta.Kind)), .d (.v (.string x0.Meta.Namespace)), .d (.v (.string x0.Meta.Name)), .d (.v (.int .i64 x0.Meta.Uid)), .d (.v (.int .i64 x0.Meta.Version)), .d (.v (.int .i64 x0.Meta.Generation)), .d (.v (.int .i64 x0.Meta.Created)), .d (.v (.bool x0.Meta.Deleting)), .d (.v (.int .i64 x0.Meta.DeleteAt)), .d (.sl (x0.Meta.Labels.map eLabel)), .d (.sl (x0.Meta.Owners.map eOwner)), .d (.sl (x0.Meta.Finalizers.map eS)), .d (.sl (x0.Meta.Managers.map eManager)), .d (.v (.int .i64 x0.Spec.Kind)), .d (.v (.int .i64 x0.Spec.N)), .d (.v (.string x0.Spec.S)), .d (.sl (x0.Spec.List_.map eTValue)), .d (.sl (x0.Spec.Fields.map eTField)), .d (.v (.int .i64 x0.Status.Kind)), .d (.v (.int .i64 x0.Status.N)), .d (.v (.string x0.Status.S)), .d (.sl (x0.Status.List_.map eTValue)), .d (.sl (x0.Status.Fields.map eTField))]] [] (tupV [.c (.d (.v (.string r)))]) [] := by
 refine callS a22_ok (by simp [a22]) ?_
 rw [F22] at h
 simp only [a22, VW.down, Nat.reduceEqDiff, reduceCtorEq, Nat.reduceAdd, Nat.reduceLeDiff, Nat.reduceLT, Nat.reduceBEq, Nat.reduceSub, EE.down]
 obtain ⟨t1, ht1, h⟩ := bi h
 refine cN [] (F33_ok ht1) trivial ?_
 refine ww ?_
 obtain rfl := Option.some.inj h
 exact eF []
end Go.Proofs.Ytbopaemngpbdgaa
