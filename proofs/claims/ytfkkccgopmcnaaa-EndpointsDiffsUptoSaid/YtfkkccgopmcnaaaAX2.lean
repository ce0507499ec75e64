/- Each Go function as a function over typed data, and its walk. -/
import Derived.Test.YtfkkccgopmcnaaaAX
namespace Go.Proofs.Ytfkkccgopmcnaaa
open Go Go.Fw Go.Shelf
set_option maxRecDepth 100000
set_option maxHeartbeats 4000000
set_option linter.unusedSimpArgs false
set_option linter.unusedVariables false
/- orchestrator/endpoints.index -/
def F33_l1  : List Endpoint → Nat → (List (ByteArray × Endpoint)) → Option ((List (ByteArray × Endpoint)))
  | [], o1_1, o1_0 => some o1_0
  | xo1 :: xs, o1_1, o1_0 => (((if (nb ((getM xo1.Pod o1_0).isSome)) = true then some ((putM xo1.Pod xo1 o1_0)) else some o1_0)).bind fun o3 => F33_l1  xs (o1_1 + 1) o3)
def F33 (x0 : EndpointSet) : Option ((List (ByteArray × Endpoint))) := (((ck (0 ≤ x0.Items.length ∧ x0.Items.length ≤ 4294967290)).bind fun u5 => F33_l1 x0.Items 0 ([])).bind fun o1 => some o1)
def a33 : AFn := ⟨31, [(.tmp 2)],
 (.seq (.reg [sq 1 (.box (.t 0)),
sq 2 (.mv (.k (.c (.d (.v (.map none))))))])
 (.seq (.reg [sq 8 (.mkmap),
sq 3 (.mv (.t 8))])
 (.seq (.seq (.reg [sq 9 (.fieldA 14 (.t 1)),
sq 10 (.load none (.t 9)),
sq 11 (.len (.t 10)),
sq 12 (.mv (kI 0))])
 (.sem (.block 0 (.loop (.seq (.reg [sq 13 (.bin .lss (.t 12) (.t 11))])
 (.seq (.cond (.t 13)
 .skip
 (.exit 0))
 (.seq (.sem (.block 1 (.seq (.reg [sq 14 (.indexA 5 (.t 10) (.t 12)),
sq 15 (.load (some 5) (.t 14)),
sq 5 (.zbox [.d (.v (.string ⟨#[]⟩)), .d (.v (.string ⟨#[]⟩)), .d (.v (.int .i64 0)), .d (.v (.bool false)), .d (.v (.bool false))]),
su (.store 5 (.t 5) (.t 15))])
 (.seq (.reg [sq 17 (.mv (.t 3)),
sq 18 (.fieldA 0 (.t 5)),
sq 19 (.load none (.t 18)),
sq 20 (.mget 1 true (.agg [.d (.v (.string ⟨#[]⟩)), .d (.v (.string ⟨#[]⟩)), .d (.v (.int .i64 0)), .d (.v (.bool false)), .d (.v (.bool false))]) (.t 17) (.t 19)),
sq 16 (.mv (.t 20)),
sq 21 (.ext (.t 16) 0),
sq 22 (.ext (.t 16) 1),
sq 6 (.zbox [.d (.v (.string ⟨#[]⟩)), .d (.v (.string ⟨#[]⟩)), .d (.v (.int .i64 0)), .d (.v (.bool false)), .d (.v (.bool false))]),
su (.store 5 (.t 6) (.t 21)),
sq 7 (.mv (.t 22))])
 (.seq (.reg [sq 23 (.mv (.t 7)),
sq 24 (.not (.t 23))])
 (.cond (.t 24)
 (.reg [sq 25 (.mv (.t 3)),
sq 26 (.fieldA 0 (.t 5)),
sq 27 (.load none (.t 26)),
sq 28 (.load (some 5) (.t 5)),
⟨none, none, .mset 1 (.t 25) (.t 27) (.t 28), [], (.lone [5, 26, 5])⟩])
 .skip))))))
 (.reg [sq 29 (.bin .add (.t 12) (kI 1)),
sq 12 (.mv (.t 29))]))))))))
 (.seq (.reg [sq 30 (.mv (.t 3)),
sq 2 (.mv (.t 30))])
 .ret))))⟩
theorem a33_ok : afn Try.prog 33 = some a33.er := by kernel_rfl
theorem F33_ok {x0 : EndpointSet} {r : (List (ByteArray × Endpoint))} (h : F33 x0 = some r) : CallD Try.prog 33 [.agg [.d (.v (.string x0.Meta.Kind)), .d (.v (.string x0.Meta.Namespace)), .d (.v (.string x0.Meta.Name)), .d (.v (.int .i64 x0.Meta.Uid)), .d (.v (.int .i64 x0.Meta.Version)), .d (.v (.int .i64 x0.Meta.Generation)), .d (.v (.int .i64 x0.Meta.Created)), .d (.v (.bool x0.Meta.Deleting)), .d (.v (.int .i64 x0.Meta.DeleteAt)), .d (.sl (x0.Meta.Labels.map eLabel)), .d (.sl (x0.Meta.Owners.map eOwner)), .d (.sl (x0.Meta.Finalizers.map eS)), .d (.sl (x0.Meta.Managers.map eManager)), .d (.sl (x0.Ports.map eServicePort)), .d (.sl (x0.Items.map eEndpoint))]] [] (tupV [.c (.mref 0)]) [some (.map (eMs Value.string eEndpoint r))] := by
 refine callS a33_ok (by simp [a33]) ?_
 rw [F33] at h
 simp only [a33, VW.down, Nat.reduceEqDiff, reduceCtorEq, Nat.reduceAdd, Nat.reduceLeDiff, Nat.reduceLT, Nat.reduceBEq, Nat.reduceSub, EE.down]
 refine t_mkmaps (κ := ByteArray) (α := Endpoint) (enc := eEndpoint) Value.string ?_
 refine ww ?_
 obtain ⟨o1, ho, h⟩ := bi h
 refine cutS (fun s => s = ⟨[(3, .one (.c (.mref 0)))], [some (.map (eMs Value.string eEndpoint o1))]⟩) ?_ ?_
 ·have h := ho
  clear ho
  obtain ⟨_, hk, h⟩ := bi h
  have hk := ck_some hk
  refine ww ?_
  refine bL (fun j s => ∃ (o1_1 : Nat) (o1_0 : List (ByteArray × Endpoint)), (o1_1 ≤ x0.Items.length ∧ j = x0.Items.length - o1_1) ∧ s = ⟨[(3, .one (.c (.mref 0))), (10, .one (.c (.d (.sl (x0.Items.map eEndpoint))))), (11, .one (.c (.d (.v (.int .i64 ((x0.Items.length : Int))))))), (12, .one (.c (.d (.v (.int .i64 ((o1_1 : Int)))))))], [some (.map (eMs Value.string eEndpoint o1_0))]⟩ ∧ F33_l1 (x0.Items.drop o1_1) o1_1 o1_0 = some o1) (x0.Items.length - 0) [some 1] ⟨0, [], ⟨hk.1, rfl⟩, rfl, h⟩ ?_
  rintro _ _ ⟨o1_1, o1_0, ⟨hi, rfl⟩, rfl, h⟩
  refine ww ?_
  refine condS (fun c2 => ?_) (fun c2 => ?_)
  ·obtain ⟨xo1, hxo1, hd⟩ := countY (show (o1_1 : Int) < (x0.Items.length : Int) from c2)
   rw [hd, F33_l1] at h
   refine ww ?_
   obtain ⟨o3, ho, h⟩ := bi h
   refine cutS (fun s => s = ⟨[(3, .one (.c (.mref 0))), (10, .one (.c (.d (.sl (x0.Items.map eEndpoint))))), (11, .one (.c (.d (.v (.int .i64 ((x0.Items.length : Int))))))), (12, .one (.c (.d (.v (.int .i64 ((o1_1 : Int)))))))], [some (.map (eMs Value.string eEndpoint o3))]⟩) ?_ ?_
   ·have h := ho
    clear ho
    refine ww ?_
    refine t_idxF (enc := eEndpoint) (xs := x0.Items) rfl rfl hxo1 rfl ?_
    refine ww ?_
    refine t_mgetsk (enc := eEndpoint) (l := o1_0) (z := (⟨(⟨#[]⟩ : ByteArray), (⟨#[]⟩ : ByteArray), 0, false, false⟩ : Endpoint)) kkS rfl rfl rfl rfl ?_
    refine ww ?_
    refine condBh h (fun c4 h => ?_) (fun c4 h => ?_)
    ·refine ww ?_
     refine t_msets (enc := eEndpoint) (l := o1_0) (x := xo1) kkS rfl rfl rfl rfl ?_
     refine ww ?_
     obtain rfl := Option.some.inj h
     exact eM [some 0] rfl
    ·refine ww ?_
     obtain rfl := Option.some.inj h
     exact eM [some 0] rfl
   ·rintro _ rfl
    clear ho
    refine ww ?_
    rw [wrapN (by omega)]
    exact eL' (x0.Items.length - (o1_1 + 1)) [some 0] ⟨o1_1 + 1, o3, ⟨by omega, rfl⟩, rfl, h⟩ (by omega)
  ·rw [countN (show ¬ ((o1_1 : Int) < (x0.Items.length : Int)) from c2), F33_l1] at h
   refine ww ?_
   obtain rfl := Option.some.inj h
   exact eM [some 0] rfl
 ·rintro _ rfl
  clear ho
  refine ww ?_
  obtain rfl := Option.some.inj h
  exact eF [some 0]

/- maps.Keys[map[string]orchestrator/api.Endpoint,string,orchestrator/api.Endpoint] -/
def F35 (b0 : List (ByteArray × Endpoint)) : Option (Unit) := some (())
def a35 : AFn := ⟨4, [(.tmp 2)],
 (.seq (.reg [sq 1 (.box (.t 0)),
sq 2 (.mv (.k (.c (.d (.v (.nilFunc))))))])
 (.seq (.reg [sq 3 (.fn 48 [(.t 1)]),
sq 2 (.mv (.t 3))])
 .ret))⟩
theorem a35_ok : afn Try.prog 35 = some a35.er := by kernel_rfl
theorem F35_ok {b0 : List (ByteArray × Endpoint)} {r : Unit} (h : F35 b0 = some r) : CallD Try.prog 35 [.c (.mref 0)] [some (.map (eMs Value.string eEndpoint b0))] (tupV [.c (.fn 48 [(1, 0)])]) [some (.map (eMs Value.string eEndpoint b0)), some (.box [.mref 0])] := by
 refine callS a35_ok (by simp [a35]) ?_
 rw [F35] at h
 simp only [a35, VW.down, Nat.reduceEqDiff, reduceCtorEq, Nat.reduceAdd, Nat.reduceLeDiff, Nat.reduceLT, Nat.reduceBEq, Nat.reduceSub, EE.down]
 obtain rfl := Option.some.inj h
 exact eF [some 0, some 1]

/- The laying of slices.Sort at strings -/
def Try.laysSort_ren : Go.Shelf.Ren := ⟨fun | 190 => 47 | 125 => 60 | 258 => 59 | 128 => 85 | 129 => 86 | 302 => 76 | 303 => 77 | 304 => 78 | 305 => 79 | 306 => 80 | 307 => 81 | 308 => 82 | 309 => 83 | 310 => 84 | 333 => 93 | 329 => 94 | 330 => 95 | 334 => 96 | 335 => 97 | 336 => 98 | 344 => 99 | n => n, fun | 31 => 24 | 9 => 9 | 3 => 3 | 46 => 117 | 0 => 0 | 51 => 142 | 53 => 144 | 4 => 4 | 183 => 134 | 182 => 133 | 131 => 139 | 5 => 5 | 218 => 165 | 222 => 169 | 228 => 173 | 229 => 174 | n => n, fun | n => n⟩
theorem Try.laysSort : Go.Proofs.Lays.n190 Try.prog Try.laysSort_ren := {
  mixed := by kernel_rfl
  f125 := Try.func60.trans (congrArg some (by kernel_rfl))
  f128 := Try.func85.trans (congrArg some (by kernel_rfl))
  f129 := Try.func86.trans (congrArg some (by kernel_rfl))
  f190 := Try.func47.trans (congrArg some (by kernel_rfl))
  f258 := Try.func59.trans (congrArg some (by kernel_rfl))
  f302 := Try.func76.trans (congrArg some (by kernel_rfl))
  f303 := Try.func77.trans (congrArg some (by kernel_rfl))
  f304 := Try.func78.trans (congrArg some (by kernel_rfl))
  f305 := Try.func79.trans (congrArg some (by kernel_rfl))
  f306 := Try.func80.trans (congrArg some (by kernel_rfl))
  f307 := Try.func81.trans (congrArg some (by kernel_rfl))
  f308 := Try.func82.trans (congrArg some (by kernel_rfl))
  f309 := Try.func83.trans (congrArg some (by kernel_rfl))
  f310 := Try.func84.trans (congrArg some (by kernel_rfl))
  f329 := Try.func94.trans (congrArg some (by kernel_rfl))
  f330 := Try.func95.trans (congrArg some (by kernel_rfl))
  f333 := Try.func93.trans (congrArg some (by kernel_rfl))
  f334 := Try.func96.trans (congrArg some (by kernel_rfl))
  f335 := Try.func97.trans (congrArg some (by kernel_rfl))
  f336 := Try.func98.trans (congrArg some (by kernel_rfl))
  f344 := Try.func99.trans (congrArg some (by kernel_rfl))
  t0 := Try.underlying0
  a0 := Try.isAgg0
  z0 := Try.sizeOf0
  v0 := Try.zeroValue0
  t3 := Try.underlying3
  a3 := Try.isAgg3
  z3 := Try.sizeOf3
  v3 := Try.zeroValue3
  t4 := Try.underlying4
  a4 := Try.isAgg4
  z4 := Try.sizeOf4
  v4 := Try.zeroValue4
  t5 := Try.underlying5
  a5 := Try.isAgg5
  z5 := Try.sizeOf5
  v5 := Try.zeroValue5
  t9 := Try.underlying9
  a9 := Try.isAgg9
  z9 := Try.sizeOf9
  v9 := Try.zeroValue9
  t31 := Try.underlying24
  a31 := Try.isAgg24
  z31 := Try.sizeOf24
  v31 := Try.zeroValue24
  t46 := Try.underlying117
  a46 := Try.isAgg117
  z46 := Try.sizeOf117
  v46 := Try.zeroValue117
  t51 := Try.underlying142
  a51 := Try.isAgg142
  z51 := Try.sizeOf142
  v51 := Try.zeroValue142
  t53 := Try.underlying144
  a53 := Try.isAgg144
  z53 := Try.sizeOf144
  v53 := Try.zeroValue144
  t131 := Try.underlying139
  a131 := Try.isAgg139
  z131 := Try.sizeOf139
  v131 := Try.zeroValue139
  t182 := Try.underlying133
  a182 := Try.isAgg133
  z182 := Try.sizeOf133
  v182 := Try.zeroValue133
  t183 := Try.underlying134
  a183 := Try.isAgg134
  z183 := Try.sizeOf134
  v183 := Try.zeroValue134
  t218 := Try.underlying165
  a218 := Try.isAgg165
  z218 := Try.sizeOf165
  v218 := Try.zeroValue165
  t222 := Try.underlying169
  a222 := Try.isAgg169
  z222 := Try.sizeOf169
  v222 := Try.zeroValue169
  t228 := Try.underlying173
  a228 := Try.isAgg173
  z228 := Try.sizeOf173
  v228 := Try.zeroValue173
  t229 := Try.underlying174
  a229 := Try.isAgg174
  z229 := Try.sizeOf174
  v229 := Try.zeroValue174 }


/- The laying of slices.Sorted at strings -/
def Try.laysSorted_ren : Go.Shelf.Ren := ⟨fun | 6 => 34 | 8 => 46 | 9 => 47 | 11 => 58 | 13 => 60 | 12 => 59 | 23 => 85 | 24 => 86 | 14 => 76 | 15 => 77 | 16 => 78 | 17 => 79 | 18 => 80 | 19 => 81 | 20 => 82 | 21 => 83 | 22 => 84 | 25 => 93 | 26 => 94 | 27 => 95 | 28 => 96 | 29 => 97 | 30 => 98 | 31 => 99 | n => n, fun | 26 => 9 | 28 => 86 | 24 => 24 | 0 => 0 | 3 => 3 | 37 => 117 | 48 => 142 | 50 => 144 | 4 => 4 | 40 => 134 | 39 => 133 | 45 => 139 | 5 => 5 | 9 => 9 | 51 => 165 | 55 => 169 | 57 => 173 | 58 => 174 | 33 => 105 | n => n, fun | n => n⟩
theorem Try.laysSorted : Go.Proofs.SlLaysZ.n6 Try.prog Try.laysSorted_ren := {
  mixed := by kernel_rfl
  f6 := ⟨Try.f34.name, by decide, Try.func34.trans (congrArg some (by kernel_rfl))⟩
  f8 := ⟨Try.f46.name, by decide, Try.func46.trans (congrArg some (by kernel_rfl))⟩
  f11 := ⟨Try.f58.name, by decide, Try.func58.trans (congrArg some (by kernel_rfl))⟩
  t0 := Try.underlying0
  a0 := Try.isAgg0
  z0 := Try.sizeOf0
  v0 := Try.zeroValue0
  t24 := Try.underlying24
  a24 := Try.isAgg24
  z24 := Try.sizeOf24
  v24 := Try.zeroValue24
  t26 := Try.underlying9
  a26 := Try.isAgg9
  z26 := Try.sizeOf9
  v26 := Try.zeroValue9
  t28 := Try.underlying86
  a28 := Try.isAgg86
  z28 := Try.sizeOf86
  v28 := Try.zeroValue86
  i26 := by kernel_rfl }


/- slices.Sorted of maps.Keys at strings -/
def Try.laysKeys48_ren : Go.Shelf.Ren := ⟨fun | 10 => 48 | n => n, fun | 33 => 105 | 23 => 82 | 0 => 0 | 4 => 4 | 26 => 9 | 3 => 49 | n => n, fun | n => n⟩
theorem Try.laysKeys48 : Go.Proofs.SlLaysZ.n10 Try.prog Try.laysKeys48_ren := {
  mixed := by kernel_rfl
  f10 := ⟨Try.f48.name, by decide, Try.func48.trans (congrArg some (by kernel_rfl))⟩
  t0 := Try.underlying0
  a0 := Try.isAgg0
  z0 := Try.sizeOf0
  v0 := Try.zeroValue0
  t4 := Try.underlying4
  a4 := Try.isAgg4
  z4 := Try.sizeOf4
  v4 := Try.zeroValue4
  t23 := Try.underlying82
  a23 := Try.isAgg82
  z23 := Try.sizeOf82
  v23 := Try.zeroValue82
  t26 := Try.underlying9
  a26 := Try.isAgg9
  z26 := Try.sizeOf9
  v26 := Try.zeroValue9
  t33 := Try.underlying105
  a33 := Try.isAgg105
  z33 := Try.sizeOf105
  v33 := Try.zeroValue105 }
theorem F34_48_ok {b1 : List (ByteArray × Endpoint)} {r : List ByteArray} (h : keysI (b1.map Prod.fst) = some r) : CallD Try.prog 34 [.c (.fn 48 [(0, 0)])] [some (.box [.mref 1]), some (.map (eMs Value.string eEndpoint b1))] (tupV [.c (.own 2 0 0 r.length none)]) [some (.box [.mref 1]), some (.map (eMs Value.string eEndpoint b1)), some (.arr 0 1 (r.map eS))] := L_sortedKeys (ρ := Try.laysSorted_ren) (ρ2 := Try.laysKeys48_ren) (ρ3 := Try.laysSort_ren) Try.laysSorted Try.laysKeys48 Try.laysSort rfl (by kernel_rfl) rfl rfl (enters_of Try.func47 (by kernel_rfl) rfl) (enters_of Try.func48 (by kernel_rfl) rfl) (by simp only [eMs, List.map_map]; rfl) h

/- orchestrator/endpoints.Diff -/
def F14_l5 (t1 : (List (ByteArray × Endpoint))) (t2 : (List (ByteArray × Endpoint))) (t4 : List ByteArray) : List ByteArray → Nat → (List ByteArray) → (List ByteArray) → Option ((List ByteArray) × (List ByteArray))
  | [], o5_2, o5_0, o5_1 => some ((o5_0, o5_1))
  | xo5 :: xs, o5_2, o5_0, o5_1 => (((rdI t4 ((o5_2 : Int))).bind fun y8 => (if (nb ((getM y8 t1).isSome)) = true then (apI o5_0 ([y8])).bind fun a10 => some ((a10, o5_1)) else (if (nb ((decide ((((getM y8 t1).getD ((⟨(⟨#[]⟩ : ByteArray), (⟨#[]⟩ : ByteArray), 0, false, false⟩ : Endpoint)))).Pod = (((getM y8 t2).getD ((⟨(⟨#[]⟩ : ByteArray), (⟨#[]⟩ : ByteArray), 0, false, false⟩ : Endpoint)))).Pod) && (decide ((((getM y8 t1).getD ((⟨(⟨#[]⟩ : ByteArray), (⟨#[]⟩ : ByteArray), 0, false, false⟩ : Endpoint)))).Node = (((getM y8 t2).getD ((⟨(⟨#[]⟩ : ByteArray), (⟨#[]⟩ : ByteArray), 0, false, false⟩ : Endpoint)))).Node) && (decide ((((getM y8 t1).getD ((⟨(⟨#[]⟩ : ByteArray), (⟨#[]⟩ : ByteArray), 0, false, false⟩ : Endpoint)))).Address = (((getM y8 t2).getD ((⟨(⟨#[]⟩ : ByteArray), (⟨#[]⟩ : ByteArray), 0, false, false⟩ : Endpoint)))).Address) && ((((((getM y8 t1).getD ((⟨(⟨#[]⟩ : ByteArray), (⟨#[]⟩ : ByteArray), 0, false, false⟩ : Endpoint)))).Ready) == ((((getM y8 t2).getD ((⟨(⟨#[]⟩ : ByteArray), (⟨#[]⟩ : ByteArray), 0, false, false⟩ : Endpoint)))).Ready)) && (((((getM y8 t1).getD ((⟨(⟨#[]⟩ : ByteArray), (⟨#[]⟩ : ByteArray), 0, false, false⟩ : Endpoint)))).Terminating) == ((((getM y8 t2).getD ((⟨(⟨#[]⟩ : ByteArray), (⟨#[]⟩ : ByteArray), 0, false, false⟩ : Endpoint)))).Terminating)))))))) = true then (apI o5_1 ([y8])).bind fun a12 => some ((o5_0, a12)) else some ((o5_0, o5_1))))).bind fun o7 => F14_l5 t1 t2 t4 xs (o5_2 + 1) o7.1 o7.2)
def F14_l16 (t15 : List ByteArray) (t2 : (List (ByteArray × Endpoint))) : List ByteArray → Nat → (List ByteArray) → Option ((List ByteArray))
  | [], o16_1, o16_0 => some o16_0
  | xo16 :: xs, o16_1, o16_0 => (((rdI t15 ((o16_1 : Int))).bind fun y19 => (if (nb ((getM y19 t2).isSome)) = true then (apI o16_0 ([y19])).bind fun a21 => some a21 else some o16_0)).bind fun o18 => F14_l16 t15 t2 xs (o16_1 + 1) o18)
def F14 (x0 : EndpointSet) (x1 : EndpointSet) : Option ((List ByteArray) × (List ByteArray) × (List ByteArray)) := (F33 x0).bind fun t1 => (F33 x1).bind fun t2 => (F35 t2).bind fun t3 => (keysI ((t2.map Prod.fst))).bind fun t4 => (((ck (0 ≤ t4.length ∧ t4.length ≤ 4294967290)).bind fun u13 => F14_l5 t1 t2 t4 t4 0 ([]) ([])).bind fun o5 => (F35 t1).bind fun t14 => (keysI ((t1.map Prod.fst))).bind fun t15 => (((ck (0 ≤ t15.length ∧ t15.length ≤ 4294967290)).bind fun u22 => F14_l16 t15 t2 t15 0 ([])).bind fun o16 => some ((o5.1, o16, o5.2))))
def a14 : AFn := ⟨80, [(.tmp 4), (.tmp 5), (.tmp 6)],
 (.seq (.reg [sq 2 (.box (.t 0)),
sq 3 (.box (.t 1)),
sq 4 (.mv kN),
sq 5 (.mv kN),
sq 6 (.mv kN)])
 (.seq (.regd [sq 20 (.load (some 15) (.t 2)),
⟨(some 21), none, .call 33 [(.t 20)], [0], (.new [0])⟩,
sq 22 (.load (some 15) (.t 3)),
⟨(some 23), none, .call 33 [(.t 22)], [0, 1, 2], (.lone [])⟩,
sd 7 (.mv (.t 21)) [0, 1, 2, 3],
sd 8 (.mv (.t 23)) [0, 1, 2, 3, 4]])
 (.seq (.reg [sq 9 (.mv kN),
sq 10 (.mv kN),
sq 11 (.mv kN)])
 (.seq (.seq (.reg [sq 24 (.mv (.t 8)),
sq 25 (.call 35 [(.t 24)]),
sq 26 (.call 34 [(.t 25)]),
sq 27 (.len (.t 26)),
sq 28 (.mv (kI 0))])
 (.sem (.block 0 (.loop (.seq (.reg [sq 29 (.bin .lss (.t 28) (.t 27))])
 (.seq (.cond (.t 29)
 .skip
 (.exit 0))
 (.seq (.sem (.block 1 (.seq (.reg [sq 30 (.indexA 1 (.t 26) (.t 28)),
sq 31 (.load none (.t 30)),
sq 13 (.mv (.t 31))])
 (.seq (.reg [sq 33 (.mv (.t 7)),
sq 34 (.mv (.t 13)),
sq 35 (.mget 1 true (.agg [.d (.v (.string ⟨#[]⟩)), .d (.v (.string ⟨#[]⟩)), .d (.v (.int .i64 0)), .d (.v (.bool false)), .d (.v (.bool false))]) (.t 33) (.t 34)),
sq 32 (.mv (.t 35)),
sq 36 (.ext (.t 32) 0),
sq 37 (.ext (.t 32) 1),
sq 14 (.zbox [.d (.v (.string ⟨#[]⟩)), .d (.v (.string ⟨#[]⟩)), .d (.v (.int .i64 0)), .d (.v (.bool false)), .d (.v (.bool false))]),
su (.store 5 (.t 14) (.t 36)),
sq 15 (.mv (.t 37))])
 (.block 2 (.seq (.reg [sq 39 (.mv (.t 15)),
sq 40 (.not (.t 39)),
sq 38 (.mv (.t 40))])
 (.cond (.t 38)
 (.reg [sq 41 (.mv (.t 9)),
sq 42 (.mv (.t 13)),
sq 43 (.bslice 1 [(.t 42)]),
sq 44 (.app 1 16 (.t 41) (.t 43)),
sq 9 (.mv (.t 44))])
 (.seq (.reg [sq 46 (.load (some 5) (.t 14)),
sq 47 (.mv (.t 8)),
sq 48 (.mv (.t 13)),
sq 49 (.mget 1 false (.agg [.d (.v (.string ⟨#[]⟩)), .d (.v (.string ⟨#[]⟩)), .d (.v (.int .i64 0)), .d (.v (.bool false)), .d (.v (.bool false))]) (.t 47) (.t 48)),
sq 50 (.eqs true [(0, 2), (1, 2), (2, 0), (3, 1), (4, 1)] (.t 46) (.t 49)),
sq 45 (.mv (.t 50))])
 (.cond (.t 45)
 (.reg [sq 51 (.mv (.t 11)),
sq 52 (.mv (.t 13)),
sq 53 (.bslice 1 [(.t 52)]),
sq 54 (.app 1 16 (.t 51) (.t 53)),
sq 11 (.mv (.t 54))])
 .skip)))))))))
 (.reg [sq 55 (.bin .add (.t 28) (kI 1)),
sq 28 (.mv (.t 55))]))))))))
 (.seq (.seq (.reg [sq 56 (.mv (.t 7)),
sq 57 (.call 35 [(.t 56)]),
sq 58 (.call 34 [(.t 57)]),
sq 59 (.len (.t 58)),
sq 60 (.mv (kI 0))])
 (.sem (.block 3 (.loop (.seq (.reg [sq 61 (.bin .lss (.t 60) (.t 59))])
 (.seq (.cond (.t 61)
 .skip
 (.exit 3))
 (.seq (.sem (.block 4 (.seq (.reg [sq 62 (.indexA 1 (.t 58) (.t 60)),
sq 63 (.load none (.t 62)),
sq 17 (.mv (.t 63))])
 (.seq (.reg [sq 65 (.mv (.t 8)),
sq 66 (.mv (.t 17)),
sq 67 (.mget 1 true (.agg [.d (.v (.string ⟨#[]⟩)), .d (.v (.string ⟨#[]⟩)), .d (.v (.int .i64 0)), .d (.v (.bool false)), .d (.v (.bool false))]) (.t 65) (.t 66)),
sq 64 (.mv (.t 67)),
sq 68 (.ext (.t 64) 0),
sq 69 (.ext (.t 64) 1),
sq 18 (.zbox [.d (.v (.string ⟨#[]⟩)), .d (.v (.string ⟨#[]⟩)), .d (.v (.int .i64 0)), .d (.v (.bool false)), .d (.v (.bool false))]),
su (.store 5 (.t 18) (.t 68)),
sq 19 (.mv (.t 69))])
 (.seq (.reg [sq 70 (.mv (.t 19)),
sq 71 (.not (.t 70))])
 (.cond (.t 71)
 (.reg [sq 72 (.mv (.t 10)),
sq 73 (.mv (.t 17)),
sq 74 (.bslice 1 [(.t 73)]),
sq 75 (.app 1 16 (.t 72) (.t 74)),
sq 10 (.mv (.t 75))])
 .skip))))))
 (.reg [sq 76 (.bin .add (.t 60) (kI 1)),
sq 60 (.mv (.t 76))]))))))))
 (.seq (.reg [sq 77 (.mv (.t 9)),
sq 78 (.mv (.t 10)),
sq 79 (.mv (.t 11)),
sq 4 (.mv (.t 77)),
sq 5 (.mv (.t 78)),
sq 6 (.mv (.t 79))])
 .ret))))))⟩
theorem a14_ok : afn Try.prog 14 = some a14.er := by kernel_rfl
theorem F14_ok {x0 : EndpointSet} {x1 : EndpointSet} {r : (List ByteArray) × (List ByteArray) × (List ByteArray)} (h : F14 x0 x1 = some r) : CallD Try.prog 14 [.agg [.d (.v (.string x0.Meta.Kind)), .d (.v (.string x0.Meta.Namespace)), .d (.v (.string x0.Meta.Name)), .d (.v (.int .i64 x0.Meta.Uid)), .d (.v (.int .i64 x0.Meta.Version)), .d (.v (.int .i64 x0.Meta.Generation)), .d (.v (.int .i64 x0.Meta.Created)), .d (.v (.bool x0.Meta.Deleting)), .d (.v (.int .i64 x0.Meta.DeleteAt)), .d (.sl (x0.Meta.Labels.map eLabel)), .d (.sl (x0.Meta.Owners.map eOwner)), .d (.sl (x0.Meta.Finalizers.map eS)), .d (.sl (x0.Meta.Managers.map eManager)), .d (.sl (x0.Ports.map eServicePort)), .d (.sl (x0.Items.map eEndpoint))], .agg [.d (.v (.string x1.Meta.Kind)), .d (.v (.string x1.Meta.Namespace)), .d (.v (.string x1.Meta.Name)), .d (.v (.int .i64 x1.Meta.Uid)), .d (.v (.int .i64 x1.Meta.Version)), .d (.v (.int .i64 x1.Meta.Generation)), .d (.v (.int .i64 x1.Meta.Created)), .d (.v (.bool x1.Meta.Deleting)), .d (.v (.int .i64 x1.Meta.DeleteAt)), .d (.sl (x1.Meta.Labels.map eLabel)), .d (.sl (x1.Meta.Owners.map eOwner)), .d (.sl (x1.Meta.Finalizers.map eS)), .d (.sl (x1.Meta.Managers.map eManager)), .d (.sl (x1.Ports.map eServicePort)), .d (.sl (x1.Items.map eEndpoint))]] [] (tupV [.c (.own 0 0 0 (r.1.length) none), .c (.own 1 0 0 (r.2.1.length) none), .c (.own 2 0 0 (r.2.2.length) none)]) [some (.arr 0 1 (r.1.map eS)), some (.arr 0 1 (r.2.1.map eS)), some (.arr 0 1 (r.2.2.map eS))] := by
 refine callS a14_ok (by simp [a14]) ?_
 rw [F14] at h
 simp only [a14, VW.down, Nat.reduceEqDiff, reduceCtorEq, Nat.reduceAdd, Nat.reduceLeDiff, Nat.reduceLT, Nat.reduceBEq, Nat.reduceSub, EE.down]
 obtain ⟨t1, ht1, h⟩ := bi h
 refine cN [] (F33_ok ht1) trivial ?_
 refine ww ?_
 refine kD_new (by simp [wrs, allW, hset]) ?_
 refine ww ?_
 obtain ⟨t2, ht2, h⟩ := bi h
 refine cN [] (F33_ok ht2) trivial ?_
 refine ww ?_
 obtain ⟨t3, ht3, h⟩ := bi h
 refine cN [3] (F35_ok ht3) ⟨⟨congrArg some (by first | exact ren_m1.symm | exact ren_ms.symm), (by first | exact entsD_live entsD_1 _ | exact entsD_live entsD_s _)⟩, trivial⟩ ?_
 refine ww ?_
 obtain ⟨t4, ht4, h⟩ := bi h
 refine cN [4, 3] (F34_48_ok ht4) ⟨⟨rfl, by simp [Blk.live, C.live, hp]⟩, ⟨⟨congrArg some (by first | exact ren_m1.symm | exact ren_ms.symm), (by first | exact entsD_live entsD_1 _ | exact entsD_live entsD_s _)⟩, trivial⟩⟩ ?_
 refine ww ?_
 obtain ⟨o5, ho, h⟩ := bi h
 refine cutS (fun s => s = ⟨[(7, .one (.c (.mref 0))), (8, .one (.c (.mref 1))), (9, .one (.c (.own 2 0 0 (o5.1.length) none))), (10, .one (.c (.d (.v (.slice none 0 0))))), (11, .one (.c (.own 3 0 0 (o5.2.length) none)))], [some (.map (eMs Value.string eEndpoint t1)), some (.map (eMs Value.string eEndpoint t2)), some (.arr 0 1 (o5.1.map eS)), some (.arr 0 1 (o5.2.map eS))]⟩) ?_ ?_
 ·have h := ho
  clear ho
  obtain ⟨_, hk, h⟩ := bi h
  have hk := ck_some hk
  refine ww ?_
  refine bL (fun j s => ∃ (o5_2 : Nat) (o5_0 : List ByteArray) (o5_1 : List ByteArray), (o5_2 ≤ t4.length ∧ j = t4.length - o5_2) ∧ s = ⟨[(7, .one (.c (.mref 0))), (8, .one (.c (.mref 1))), (9, .one (.c (.own 2 0 0 (o5_0.length) none))), (10, .one (.c (.d (.v (.slice none 0 0))))), (11, .one (.c (.own 3 0 0 (o5_1.length) none))), (26, .one (.c (.own 4 0 0 (t4.length) none))), (27, .one (.c (.d (.v (.int .i64 ((t4.length : Int))))))), (28, .one (.c (.d (.v (.int .i64 ((o5_2 : Int)))))))], [some (.map (eMs Value.string eEndpoint t1)), some (.map (eMs Value.string eEndpoint t2)), some (.arr 0 1 (o5_0.map eS)), some (.arr 0 1 (o5_1.map eS)), some (.arr 0 1 (t4.map eS))]⟩ ∧ F14_l5 t1 t2 t4 (t4.drop o5_2) o5_2 o5_0 o5_1 = some o5) (t4.length - 0) [some 2, some 3, none, none, some 5] ⟨0, [], [], ⟨hk.1, rfl⟩, rfl, h⟩ ?_
  rintro _ _ ⟨o5_2, o5_0, o5_1, ⟨hi, rfl⟩, rfl, h⟩
  refine ww ?_
  refine condS (fun c6 => ?_) (fun c6 => ?_)
  ·obtain ⟨xo5, hxo5, hd⟩ := countY (show (o5_2 : Int) < (t4.length : Int) from c6)
   rw [hd, F14_l5] at h
   refine ww ?_
   obtain ⟨o7, ho, h⟩ := bi h
   refine cutS (fun s => s = ⟨[(7, .one (.c (.mref 0))), (8, .one (.c (.mref 1))), (9, .one (.c (.own 2 0 0 (o7.1.length) none))), (10, .one (.c (.d (.v (.slice none 0 0))))), (11, .one (.c (.own 3 0 0 (o7.2.length) none))), (26, .one (.c (.own 4 0 0 (t4.length) none))), (27, .one (.c (.d (.v (.int .i64 ((t4.length : Int))))))), (28, .one (.c (.d (.v (.int .i64 ((o5_2 : Int)))))))], [some (.map (eMs Value.string eEndpoint t1)), some (.map (eMs Value.string eEndpoint t2)), some (.arr 0 1 (o7.1.map eS)), some (.arr 0 1 (o7.2.map eS)), some (.arr 0 1 (t4.map eS))]⟩) ?_ ?_
   ·have h := ho
    clear ho
    refine ww ?_
    obtain ⟨y8, hy8, h⟩ := bi h
    refine t_idxO (enc := eS) (xs := t4) rfl rfl rfl (by first | rfl | simp only [List.length_set] | exact (clrL_len (slI_len (by assumption))).symm) hy8 ?_
    refine ww ?_
    refine LdRow.rd (rdI_some hy8).2.1 ?_
    refine ww ?_
    refine t_mgetsk (enc := eEndpoint) (l := t1) (z := (⟨(⟨#[]⟩ : ByteArray), (⟨#[]⟩ : ByteArray), 0, false, false⟩ : Endpoint)) kkS rfl rfl rfl rfl ?_
    refine ww ?_
    refine condBh h (fun c9 h => ?_) (fun c9 h => ?_)
    ·refine ww ?_
     refine t_bslice (enc := eS) (ys := [y8]) rfl rfl (by simp [A1.cells]) (by first | rfl | (simp only [List.drop_zero, take_mapL]; rfl) | (simp only [lit, List.map_cons, List.map_nil, List.drop_zero, take_mapL, EE.down]; done) | (simp only [lit, List.map_cons, List.map_nil, List.drop_zero, take_mapL, EE.down]; rfl)) ?_
     refine ww ?_
     obtain ⟨a10, ha10, h⟩ := bi h
     refine t_app (enc := eS) (xs := o5_0) rfl rfl (by first | rfl | simp only [List.length_set] | exact (clrL_len (slI_len (by assumption))).symm) rfl (rows_full (enc := eS) (by first | rfl | simp only [List.length_set] | exact (clrL_len (slI_len (by assumption))).symm) rfl) ha10 ?_
     refine ww ?_
     obtain rfl := Option.some.inj h
     exact eM [some 0, some 1, some 2, some 3, some 4] rfl
    ·refine ww ?_
     refine t_mgets (enc := eEndpoint) (l := t2) (z := (⟨(⟨#[]⟩ : ByteArray), (⟨#[]⟩ : ByteArray), 0, false, false⟩ : Endpoint)) kkS rfl rfl rfl rfl ?_
     refine ww ?_
     refine condBh h (fun c11 h => ?_) (fun c11 h => ?_)
     ·refine ww ?_
      refine t_bslice (enc := eS) (ys := [y8]) rfl rfl (by simp [A1.cells]) (by first | rfl | (simp only [List.drop_zero, take_mapL]; rfl) | (simp only [lit, List.map_cons, List.map_nil, List.drop_zero, take_mapL, EE.down]; done) | (simp only [lit, List.map_cons, List.map_nil, List.drop_zero, take_mapL, EE.down]; rfl)) ?_
      refine ww ?_
      obtain ⟨a12, ha12, h⟩ := bi h
      refine t_app (enc := eS) (xs := o5_1) rfl rfl (by first | rfl | simp only [List.length_set] | exact (clrL_len (slI_len (by assumption))).symm) rfl (rows_full (enc := eS) (by first | rfl | simp only [List.length_set] | exact (clrL_len (slI_len (by assumption))).symm) rfl) ha12 ?_
      refine ww ?_
      obtain rfl := Option.some.inj h
      exact eM [some 0, some 1, some 2, some 3, some 4] rfl
     ·refine ww ?_
      obtain rfl := Option.some.inj h
      exact eM [some 0, some 1, some 2, some 3, some 4] rfl
   ·rintro _ rfl
    clear ho
    refine ww ?_
    rw [wrapN (by omega)]
    exact eL' (t4.length - (o5_2 + 1)) [some 0, some 1, some 2, some 3, some 4] ⟨o5_2 + 1, o7.1, o7.2, ⟨by omega, rfl⟩, rfl, h⟩ (by omega)
  ·rw [countN (show ¬ ((o5_2 : Int) < (t4.length : Int)) from c6), F14_l5] at h
   refine ww ?_
   obtain rfl := Option.some.inj h
   exact eM [some 0, some 1, some 2, some 3] rfl
 ·rintro _ rfl
  clear ho
  refine ww ?_
  obtain ⟨t14, ht14, h⟩ := bi h
  refine cN [0] (F35_ok ht14) ⟨⟨congrArg some (by first | exact ren_m1.symm | exact ren_ms.symm), (by first | exact entsD_live entsD_1 _ | exact entsD_live entsD_s _)⟩, trivial⟩ ?_
  refine ww ?_
  obtain ⟨t15, ht15, h⟩ := bi h
  refine cN [4, 0] (F34_48_ok ht15) ⟨⟨rfl, by simp [Blk.live, C.live, hp]⟩, ⟨⟨congrArg some (by first | exact ren_m1.symm | exact ren_ms.symm), (by first | exact entsD_live entsD_1 _ | exact entsD_live entsD_s _)⟩, trivial⟩⟩ ?_
  refine ww ?_
  obtain ⟨o16, ho, h⟩ := bi h
  refine cutS (fun s => s = ⟨[(9, .one (.c (.own 0 0 0 (o5.1.length) none))), (10, .one (.c (.own 1 0 0 (o16.length) none))), (11, .one (.c (.own 2 0 0 (o5.2.length) none)))], [some (.arr 0 1 (o5.1.map eS)), some (.arr 0 1 (o16.map eS)), some (.arr 0 1 (o5.2.map eS))]⟩) ?_ ?_
  ·have h := ho
   clear ho
   obtain ⟨_, hk, h⟩ := bi h
   have hk := ck_some hk
   refine ww ?_
   refine bL (fun j s => ∃ (o16_1 : Nat) (o16_0 : List ByteArray), (o16_1 ≤ t15.length ∧ j = t15.length - o16_1) ∧ s = ⟨[(8, .one (.c (.mref 0))), (9, .one (.c (.own 1 0 0 (o5.1.length) none))), (10, .one (.c (.own 2 0 0 (o16_0.length) none))), (11, .one (.c (.own 3 0 0 (o5.2.length) none))), (58, .one (.c (.own 4 0 0 (t15.length) none))), (59, .one (.c (.d (.v (.int .i64 ((t15.length : Int))))))), (60, .one (.c (.d (.v (.int .i64 ((o16_1 : Int)))))))], [some (.map (eMs Value.string eEndpoint t2)), some (.arr 0 1 (o5.1.map eS)), some (.arr 0 1 (o16_0.map eS)), some (.arr 0 1 (o5.2.map eS)), some (.arr 0 1 (t15.map eS))]⟩ ∧ F14_l16 t15 t2 (t15.drop o16_1) o16_1 o16_0 = some o16) (t15.length - 0) [some 1, some 2, none, some 3, some 5] ⟨0, [], ⟨hk.1, rfl⟩, rfl, h⟩ ?_
   rintro _ _ ⟨o16_1, o16_0, ⟨hi, rfl⟩, rfl, h⟩
   refine ww ?_
   refine condS (fun c17 => ?_) (fun c17 => ?_)
   ·obtain ⟨xo16, hxo16, hd⟩ := countY (show (o16_1 : Int) < (t15.length : Int) from c17)
    rw [hd, F14_l16] at h
    refine ww ?_
    obtain ⟨o18, ho, h⟩ := bi h
    refine cutS (fun s => s = ⟨[(8, .one (.c (.mref 0))), (9, .one (.c (.own 1 0 0 (o5.1.length) none))), (10, .one (.c (.own 2 0 0 (o18.length) none))), (11, .one (.c (.own 3 0 0 (o5.2.length) none))), (58, .one (.c (.own 4 0 0 (t15.length) none))), (59, .one (.c (.d (.v (.int .i64 ((t15.length : Int))))))), (60, .one (.c (.d (.v (.int .i64 ((o16_1 : Int)))))))], [some (.map (eMs Value.string eEndpoint t2)), some (.arr 0 1 (o5.1.map eS)), some (.arr 0 1 (o18.map eS)), some (.arr 0 1 (o5.2.map eS)), some (.arr 0 1 (t15.map eS))]⟩) ?_ ?_
    ·have h := ho
     clear ho
     refine ww ?_
     obtain ⟨y19, hy19, h⟩ := bi h
     refine t_idxO (enc := eS) (xs := t15) rfl rfl rfl (by first | rfl | simp only [List.length_set] | exact (clrL_len (slI_len (by assumption))).symm) hy19 ?_
     refine ww ?_
     refine LdRow.rd (rdI_some hy19).2.1 ?_
     refine ww ?_
     refine t_mgetsk (enc := eEndpoint) (l := t2) (z := (⟨(⟨#[]⟩ : ByteArray), (⟨#[]⟩ : ByteArray), 0, false, false⟩ : Endpoint)) kkS rfl rfl rfl rfl ?_
     refine ww ?_
     refine condBh h (fun c20 h => ?_) (fun c20 h => ?_)
     ·refine ww ?_
      refine t_bslice (enc := eS) (ys := [y19]) rfl rfl (by simp [A1.cells]) (by first | rfl | (simp only [List.drop_zero, take_mapL]; rfl) | (simp only [lit, List.map_cons, List.map_nil, List.drop_zero, take_mapL, EE.down]; done) | (simp only [lit, List.map_cons, List.map_nil, List.drop_zero, take_mapL, EE.down]; rfl)) ?_
      refine ww ?_
      obtain ⟨a21, ha21, h⟩ := bi h
      refine t_app (enc := eS) (xs := o16_0) rfl rfl (by first | rfl | simp only [List.length_set] | exact (clrL_len (slI_len (by assumption))).symm) rfl (rows_full (enc := eS) (by first | rfl | simp only [List.length_set] | exact (clrL_len (slI_len (by assumption))).symm) rfl) ha21 ?_
      refine ww ?_
      obtain rfl := Option.some.inj h
      exact eM [some 0, some 1, some 2, some 3, some 4] rfl
     ·refine ww ?_
      obtain rfl := Option.some.inj h
      exact eM [some 0, some 1, some 2, some 3, some 4] rfl
    ·rintro _ rfl
     clear ho
     refine ww ?_
     rw [wrapN (by omega)]
     exact eL' (t15.length - (o16_1 + 1)) [some 0, some 1, some 2, some 3, some 4] ⟨o16_1 + 1, o18, ⟨by omega, rfl⟩, rfl, h⟩ (by omega)
   ·rw [countN (show ¬ ((o16_1 : Int) < (t15.length : Int)) from c17), F14_l16] at h
    refine ww ?_
    obtain rfl := Option.some.inj h
    exact eM [some 1, some 2, some 3] rfl
  ·rintro _ rfl
   clear ho
   refine ww ?_
   obtain rfl := Option.some.inj h
   exact eF [some 0, some 1, some 2]

/- orchestrator/orchestratorref55.SameItems -/
def F13_l2 (x1 : (List Endpoint)) : List Endpoint → Nat → Option ((Bool) ⊕ (Unit))
  | [], o2_0 => some (Sum.inr (()))
  | xo2 :: xs, o2_0 => (rdI x1 ((o2_0 : Int))).bind fun y4 => (if (nb ((decide (xo2.Pod = y4.Pod) && (decide (xo2.Node = y4.Node) && (decide (xo2.Address = y4.Address) && ((xo2.Ready == y4.Ready) && (xo2.Terminating == y4.Terminating))))))) = true then (some false).map Sum.inl else F13_l2 x1 xs (o2_0 + 1))
def F13 (x0 : (List Endpoint)) (x1 : (List Endpoint)) : Option (Bool) := (if ¬ ((x0.length : Int) = (x1.length : Int)) then some false else (((ck (0 ≤ x0.length ∧ x0.length ≤ 4294967290)).bind fun u6 => F13_l2 x1 x0 0 : Option ((Bool) ⊕ (Unit))).bind fun o2 => match o2 with | Sum.inl f => some f | Sum.inr po2 => some true))
def a13 : AFn := ⟨26, [(.tmp 4)],
 (.seq (.reg [sq 4 (.mv (kB false))])
 (.seq (.seq (.reg [sq 6 (.mv (.t 0)),
sq 7 (.len (.t 6)),
sq 8 (.mv (.t 1)),
sq 9 (.len (.t 8)),
sq 10 (.bin .neq (.t 7) (.t 9))])
 (.cond (.t 10)
 (.seq (.reg [sq 4 (.mv (kB false))])
 .ret)
 .skip))
 (.seq (.seq (.reg [sq 5 (.mv (kI 0))])
 (.sem (.block 0 (.loop (.seq (.seq (.reg [sq 11 (.mv (.t 5)),
sq 12 (.mv (.t 0)),
sq 13 (.len (.t 12)),
sq 14 (.bin .lss (.t 11) (.t 13))])
 (.cond (.t 14)
 .skip
 (.exit 0)))
 (.seq (.block 1 (.seq (.regd [sq 17 (.mv (.t 0)),
sq 18 (.mv (.t 5)),
sd 19 (.indexA 5 (.t 17) (.t 18)) [0, 1],
sd 20 (.load (some 5) (.t 19)) [0, 1, 2],
sq 21 (.mv (.t 1)),
sq 22 (.mv (.t 5)),
sd 23 (.indexA 5 (.t 21) (.t 22)) [4, 5],
sd 24 (.load (some 5) (.t 23)) [4, 5, 6],
⟨(some 25), none, .eqs true [(0, 2), (1, 2), (2, 0), (3, 1), (4, 1)] (.t 20) (.t 24), [0, 1, 2, 3, 4, 5, 6, 7], (.lone [])⟩])
 (.cond (.t 25)
 (.seq (.reg [sq 4 (.mv (kB false))])
 .ret)
 .skip)))
 (.reg [sq 15 (.mv (.t 5)),
sq 16 (.bin .add (.t 15) (kI 1)),
sq 5 (.mv (.t 16))])))))))
 (.seq (.reg [sq 4 (.mv (kB true))])
 .ret))))⟩
theorem a13_ok : afn Try.prog 13 = some a13.er := by kernel_rfl
theorem F13_ok {x0 : (List Endpoint)} {x1 : (List Endpoint)} {r : Bool} (h : F13 x0 x1 = some r) : CallD Try.prog 13 [.c (.d (.sl (x0.map eEndpoint))), .c (.d (.sl (x1.map eEndpoint)))] [] (tupV [.c (.d (.v (.bool r)))]) [] := by
 refine callS a13_ok (by simp [a13]) ?_
 rw [F13] at h
 simp only [a13, VW.down, Nat.reduceEqDiff, reduceCtorEq, Nat.reduceAdd, Nat.reduceLeDiff, Nat.reduceLT, Nat.reduceBEq, Nat.reduceSub, EE.down]
 refine condSh h (fun c1 h => ?_) (fun c1 h => ?_)
 ·refine ww ?_
  obtain rfl := Option.some.inj h
  exact eF []
 ·refine ww ?_
  obtain ⟨o2, ho, h⟩ := bi h
  refine cutS (fun s => ∃ po2, o2 = Sum.inr po2 ∧ s = ⟨[], []⟩) ?_ ?_
  ·have h0o2 := h
   have h := ho
   clear ho
   obtain ⟨_, hk, h⟩ := bi h
   have hk := ck_some hk
   refine ww ?_
   refine bL (fun j s => ∃ (o2_0 : Nat), (o2_0 ≤ x0.length ∧ j = x0.length - o2_0) ∧ s = ⟨[(0, .one (.c (.d (.sl (x0.map eEndpoint))))), (1, .one (.c (.d (.sl (x1.map eEndpoint))))), (5, .one (.c (.d (.v (.int .i64 ((o2_0 : Int)))))))], []⟩ ∧ F13_l2 x1 (x0.drop o2_0) o2_0 = some o2) (x0.length - 0) [] ⟨0, ⟨hk.1, rfl⟩, rfl, h⟩ ?_
   rintro _ _ ⟨o2_0, ⟨hi, rfl⟩, rfl, h⟩
   refine ww ?_
   refine condS (fun c3 => ?_) (fun c3 => ?_)
   ·obtain ⟨xo2, hxo2, hd⟩ := countY (show (o2_0 : Int) < (x0.length : Int) from c3)
    rw [hd, F13_l2] at h
    refine ww ?_
    refine t_idxF (enc := eEndpoint) (xs := x0) rfl rfl hxo2 rfl ?_
    refine ww ?_
    obtain ⟨y4, hy4, h⟩ := bi h
    refine t_idxF (enc := eEndpoint) (xs := x1) rfl rfl hy4 rfl ?_
    refine ww ?_
    refine condBh h (fun c5 h => ?_) (fun c5 h => ?_)
    ·refine ww ?_
     obtain ⟨fh0o2, hfh0o2, rfl⟩ := Option.map_eq_some_iff.1 h
     have h := hfh0o2.trans h0o2
     obtain rfl := Option.some.inj h
     exact eF []
    ·refine ww ?_
     rw [wrapN (by omega)]
     exact eL' (x0.length - (o2_0 + 1)) [] ⟨o2_0 + 1, ⟨by omega, rfl⟩, rfl, h⟩ (by omega)
   ·rw [countN (show ¬ ((o2_0 : Int) < (x0.length : Int)) from c3), F13_l2] at h
    refine ww ?_
    obtain rfl := Option.some.inj h
    exact eM [] ⟨_, rfl, rfl⟩
  ·rintro _ ⟨po2, rfl, rfl⟩
   clear ho
   dsimp only at h
   refine ww ?_
   obtain rfl := Option.some.inj h
   exact eF []

/- orchestrator/orchestratorref03.SameStrings -/
def F16_l2 (x1 : (List ByteArray)) : List ByteArray → Nat → Option ((Bool) ⊕ (Unit))
  | [], o2_0 => some (Sum.inr (()))
  | xo2 :: xs, o2_0 => (rdI x1 ((o2_0 : Int))).bind fun y4 => (if ¬ (xo2 = y4) then (some false).map Sum.inl else F16_l2 x1 xs (o2_0 + 1))
def F16 (x0 : (List ByteArray)) (x1 : (List ByteArray)) : Option (Bool) := (if ¬ ((x0.length : Int) = (x1.length : Int)) then some false else (((ck (0 ≤ x0.length ∧ x0.length ≤ 4294967290)).bind fun u6 => F16_l2 x1 x0 0 : Option ((Bool) ⊕ (Unit))).bind fun o2 => match o2 with | Sum.inl f => some f | Sum.inr po2 => some true))
def a16 : AFn := ⟨26, [(.tmp 4)],
 (.seq (.reg [sq 4 (.mv (kB false))])
 (.seq (.seq (.reg [sq 6 (.mv (.t 0)),
sq 7 (.len (.t 6)),
sq 8 (.mv (.t 1)),
sq 9 (.len (.t 8)),
sq 10 (.bin .neq (.t 7) (.t 9))])
 (.cond (.t 10)
 (.seq (.reg [sq 4 (.mv (kB false))])
 .ret)
 .skip))
 (.seq (.seq (.reg [sq 5 (.mv (kI 0))])
 (.sem (.block 0 (.loop (.seq (.seq (.reg [sq 11 (.mv (.t 5)),
sq 12 (.mv (.t 0)),
sq 13 (.len (.t 12)),
sq 14 (.bin .lss (.t 11) (.t 13))])
 (.cond (.t 14)
 .skip
 (.exit 0)))
 (.seq (.block 1 (.seq (.regd [sq 17 (.mv (.t 0)),
sq 18 (.mv (.t 5)),
sd 19 (.indexA 1 (.t 17) (.t 18)) [0, 1],
sd 20 (.load none (.t 19)) [0, 1, 2],
sq 21 (.mv (.t 1)),
sq 22 (.mv (.t 5)),
sd 23 (.indexA 1 (.t 21) (.t 22)) [4, 5],
sd 24 (.load none (.t 23)) [4, 5, 6],
sd 25 (.bin .neq (.t 20) (.t 24)) [0, 1, 2, 3, 4, 5, 6, 7]])
 (.cond (.t 25)
 (.seq (.reg [sq 4 (.mv (kB false))])
 .ret)
 .skip)))
 (.reg [sq 15 (.mv (.t 5)),
sq 16 (.bin .add (.t 15) (kI 1)),
sq 5 (.mv (.t 16))])))))))
 (.seq (.reg [sq 4 (.mv (kB true))])
 .ret))))⟩
theorem a16_ok : afn Try.prog 16 = some a16.er := by kernel_rfl
theorem F16_ok {x0 : (List ByteArray)} {x1 : (List ByteArray)} {r : Bool} (h : F16 x0 x1 = some r) : CallD Try.prog 16 [.c (.d (.sl (x0.map eS))), .c (.d (.sl (x1.map eS)))] [] (tupV [.c (.d (.v (.bool r)))]) [] := by
 refine callS a16_ok (by simp [a16]) ?_
 rw [F16] at h
 simp only [a16, VW.down, Nat.reduceEqDiff, reduceCtorEq, Nat.reduceAdd, Nat.reduceLeDiff, Nat.reduceLT, Nat.reduceBEq, Nat.reduceSub, EE.down]
 refine condSh h (fun c1 h => ?_) (fun c1 h => ?_)
 ·refine ww ?_
  obtain rfl := Option.some.inj h
  exact eF []
 ·refine ww ?_
  obtain ⟨o2, ho, h⟩ := bi h
  refine cutS (fun s => ∃ po2, o2 = Sum.inr po2 ∧ s = ⟨[], []⟩) ?_ ?_
  ·have h0o2 := h
   have h := ho
   clear ho
   obtain ⟨_, hk, h⟩ := bi h
   have hk := ck_some hk
   refine ww ?_
   refine bL (fun j s => ∃ (o2_0 : Nat), (o2_0 ≤ x0.length ∧ j = x0.length - o2_0) ∧ s = ⟨[(0, .one (.c (.d (.sl (x0.map eS))))), (1, .one (.c (.d (.sl (x1.map eS))))), (5, .one (.c (.d (.v (.int .i64 ((o2_0 : Int)))))))], []⟩ ∧ F16_l2 x1 (x0.drop o2_0) o2_0 = some o2) (x0.length - 0) [] ⟨0, ⟨hk.1, rfl⟩, rfl, h⟩ ?_
   rintro _ _ ⟨o2_0, ⟨hi, rfl⟩, rfl, h⟩
   refine ww ?_
   refine condS (fun c3 => ?_) (fun c3 => ?_)
   ·obtain ⟨xo2, hxo2, hd⟩ := countY (show (o2_0 : Int) < (x0.length : Int) from c3)
    rw [hd, F16_l2] at h
    refine ww ?_
    refine t_idxF (enc := eS) (xs := x0) rfl rfl hxo2 rfl ?_
    refine ww ?_
    obtain ⟨y4, hy4, h⟩ := bi h
    refine t_idxF (enc := eS) (xs := x1) rfl rfl hy4 rfl ?_
    refine ww ?_
    refine condSh h (fun c5 h => ?_) (fun c5 h => ?_)
    ·refine ww ?_
     obtain ⟨fh0o2, hfh0o2, rfl⟩ := Option.map_eq_some_iff.1 h
     have h := hfh0o2.trans h0o2
     obtain rfl := Option.some.inj h
     exact eF []
    ·refine ww ?_
     rw [wrapN (by omega)]
     exact eL' (x0.length - (o2_0 + 1)) [] ⟨o2_0 + 1, ⟨by omega, rfl⟩, rfl, h⟩ (by omega)
   ·rw [countN (show ¬ ((o2_0 : Int) < (x0.length : Int)) from c3), F16_l2] at h
    refine ww ?_
    obtain rfl := Option.some.inj h
    exact eM [] ⟨_, rfl, rfl⟩
  ·rintro _ ⟨po2, rfl, rfl⟩
   clear ho
   dsimp only at h
   refine ww ?_
   obtain rfl := Option.some.inj h
   exact eF []

/- orchestrator/orchestratorlaw55.lives -/
def F9  : Option (Bool) := (F23 ((⟨#[98]⟩ : ByteArray)) ((⟨#[119, 101, 98]⟩ : ByteArray)) 12).bind fun t1 => ((some (())).bind fun o2 => (F23 ((⟨#[99]⟩ : ByteArray)) ((⟨#[100, 98]⟩ : ByteArray)) 13).bind fun t3 => (F23 ((⟨#[97]⟩ : ByteArray)) ((⟨#[119, 101, 98]⟩ : ByteArray)) 11).bind fun t4 => (F23 ((⟨#[100]⟩ : ByteArray)) ((⟨#[119, 101, 98]⟩ : ByteArray)) 0).bind fun t5 => (F10 ((⟨(⟨(⟨#[]⟩ : ByteArray), (⟨#[110]⟩ : ByteArray), (⟨#[115]⟩ : ByteArray), 0, 0, 0, 0, false, 0, [], [], [], []⟩ : Meta), [(⟨(⟨#[97, 112, 112]⟩ : ByteArray), 1, [(⟨#[119, 101, 98]⟩ : ByteArray)]⟩ : Requirement)], [], false, 0⟩ : Service)) ((lit [(⟨(⟨(⟨#[80, 111, 100]⟩ : ByteArray), (⟨#[110]⟩ : ByteArray), ((⟨#[98]⟩ : ByteArray)), 0, 0, 0, 0, true, 0, [(⟨(⟨#[97, 112, 112]⟩ : ByteArray), ((⟨#[119, 101, 98]⟩ : ByteArray))⟩ : Label)], [], [], []⟩ : Meta), (⟨(⟨#[]⟩ : ByteArray), 0, 0, 0, [], [], [], [], [], []⟩ : PodSpec), (⟨1, true, 0, 0, 0, [], (12 : Int), (⟨#[]⟩ : ByteArray), (⟨#[]⟩ : ByteArray)⟩ : PodStatus)⟩ : Pod), (⟨(⟨(⟨#[80, 111, 100]⟩ : ByteArray), (⟨#[110]⟩ : ByteArray), ((⟨#[99]⟩ : ByteArray)), 0, 0, 0, 0, false, 0, [(⟨(⟨#[97, 112, 112]⟩ : ByteArray), ((⟨#[100, 98]⟩ : ByteArray))⟩ : Label)], [], [], []⟩ : Meta), (⟨(⟨#[]⟩ : ByteArray), 0, 0, 0, [], [], [], [], [], []⟩ : PodSpec), (⟨1, true, 0, 0, 0, [], (13 : Int), (⟨#[]⟩ : ByteArray), (⟨#[]⟩ : ByteArray)⟩ : PodStatus)⟩ : Pod), (⟨(⟨(⟨#[80, 111, 100]⟩ : ByteArray), (⟨#[110]⟩ : ByteArray), ((⟨#[97]⟩ : ByteArray)), 0, 0, 0, 0, false, 0, [(⟨(⟨#[97, 112, 112]⟩ : ByteArray), ((⟨#[119, 101, 98]⟩ : ByteArray))⟩ : Label)], [], [], []⟩ : Meta), (⟨(⟨#[]⟩ : ByteArray), 0, 0, 0, [], [], [], [], [], []⟩ : PodSpec), (⟨1, true, 0, 0, 0, [], (11 : Int), (⟨#[]⟩ : ByteArray), (⟨#[]⟩ : ByteArray)⟩ : PodStatus)⟩ : Pod), (⟨(⟨(⟨#[80, 111, 100]⟩ : ByteArray), (⟨#[110]⟩ : ByteArray), ((⟨#[100]⟩ : ByteArray)), 0, 0, 0, 0, false, 0, [(⟨(⟨#[97, 112, 112]⟩ : ByteArray), ((⟨#[119, 101, 98]⟩ : ByteArray))⟩ : Label)], [], [], []⟩ : Meta), (⟨(⟨#[]⟩ : ByteArray), 0, 0, 0, [], [], [], [], [], []⟩ : PodSpec), (⟨1, true, 0, 0, 0, [], (0 : Int), (⟨#[]⟩ : ByteArray), (⟨#[]⟩ : ByteArray)⟩ : PodStatus)⟩ : Pod)]))).bind fun t6 => (F14 ((⟨(⟨(⟨#[]⟩ : ByteArray), (⟨#[]⟩ : ByteArray), (⟨#[]⟩ : ByteArray), 0, 0, 0, 0, false, 0, [], [], [], []⟩ : Meta), [], [(⟨(⟨#[97]⟩ : ByteArray), (⟨#[]⟩ : ByteArray), 0, false, false⟩ : Endpoint), (⟨(⟨#[98]⟩ : ByteArray), (⟨#[]⟩ : ByteArray), 0, false, false⟩ : Endpoint)]⟩ : EndpointSet)) ((⟨(⟨(⟨#[]⟩ : ByteArray), (⟨#[]⟩ : ByteArray), (⟨#[]⟩ : ByteArray), 0, 0, 0, 0, false, 0, [], [], [], []⟩ : Meta), [], [(⟨(⟨#[98]⟩ : ByteArray), (⟨#[]⟩ : ByteArray), 0, true, false⟩ : Endpoint), (⟨(⟨#[99]⟩ : ByteArray), (⟨#[]⟩ : ByteArray), 0, false, false⟩ : Endpoint)]⟩ : EndpointSet))).bind fun t7 => (((if True then (F13 t6.2 ([(⟨(⟨#[80, 111, 100, 47, 110, 47, 97]⟩ : ByteArray), (⟨#[]⟩ : ByteArray), 11, true, false⟩ : Endpoint), (⟨(⟨#[80, 111, 100, 47, 110, 47, 98]⟩ : ByteArray), (⟨#[]⟩ : ByteArray), 12, false, true⟩ : Endpoint)])).bind fun t10 => (if t10 = true then (F16 t7.1 ([(⟨#[99]⟩ : ByteArray)])).bind fun t12 => (if t12 = true then (F16 t7.2.1 ([(⟨#[97]⟩ : ByteArray)])).bind fun t14 => (if t14 = true then (F16 t7.2.2 ([(⟨#[98]⟩ : ByteArray)])).bind fun t16 => some t16 else some false) else some false) else some false) else some false)).bind fun o8 => some o8))
def a9 : AFn := ⟨62, [(.tmp 0)],
 (.seq (.reg [sq 0 (.mv (kB false))])
 (.seq (.reg [sq 7 (.build [.d (.v (.string ⟨#[]⟩)), .d (.v (.string ⟨#[]⟩)), .d (.v (.string ⟨#[]⟩)), .d (.v (.int .i64 0)), .d (.v (.int .i64 0)), .d (.v (.int .i64 0)), .d (.v (.int .i64 0)), .d (.v (.bool false)), .d (.v (.int .i64 0)), .d (.v (.slice none 0 0)), .d (.v (.slice none 0 0)), .d (.v (.slice none 0 0)), .d (.v (.slice none 0 0))] [(1, 1, (kS ⟨#[110]⟩)), (2, 1, (kS ⟨#[115]⟩))]),
sq 8 (.bslice 1 [(kS ⟨#[119, 101, 98]⟩)]),
sq 9 (.build [.d (.v (.string ⟨#[]⟩)), .d (.v (.int .i64 0)), .d (.v (.slice none 0 0))] [(0, 1, (kS ⟨#[97, 112, 112]⟩)), (1, 1, (kI 1)), (2, 1, (.t 8))]),
sq 10 (.bslice 3 [(.t 9)]),
sq 11 (.build [.d (.v (.string ⟨#[]⟩)), .d (.v (.string ⟨#[]⟩)), .d (.v (.string ⟨#[]⟩)), .d (.v (.int .i64 0)), .d (.v (.int .i64 0)), .d (.v (.int .i64 0)), .d (.v (.int .i64 0)), .d (.v (.bool false)), .d (.v (.int .i64 0)), .d (.v (.slice none 0 0)), .d (.v (.slice none 0 0)), .d (.v (.slice none 0 0)), .d (.v (.slice none 0 0)), .d (.v (.slice none 0 0)), .d (.v (.slice none 0 0)), .d (.v (.bool false)), .d (.v (.int .i64 0))] [(0, 13, (.t 7)), (13, 1, (.t 10))]),
sq 1 (.zbox [.d (.v (.string ⟨#[]⟩)), .d (.v (.string ⟨#[]⟩)), .d (.v (.string ⟨#[]⟩)), .d (.v (.int .i64 0)), .d (.v (.int .i64 0)), .d (.v (.int .i64 0)), .d (.v (.int .i64 0)), .d (.v (.bool false)), .d (.v (.int .i64 0)), .d (.v (.slice none 0 0)), .d (.v (.slice none 0 0)), .d (.v (.slice none 0 0)), .d (.v (.slice none 0 0)), .d (.v (.slice none 0 0)), .d (.v (.slice none 0 0)), .d (.v (.bool false)), .d (.v (.int .i64 0))]),
su (.store 17 (.t 1) (.t 11))])
 (.seq (.reg [sq 12 (.call 23 [(kS ⟨#[98]⟩), (kS ⟨#[119, 101, 98]⟩), (kI 12)]),
sq 2 (.zbox [.d (.v (.string ⟨#[]⟩)), .d (.v (.string ⟨#[]⟩)), .d (.v (.string ⟨#[]⟩)), .d (.v (.int .i64 0)), .d (.v (.int .i64 0)), .d (.v (.int .i64 0)), .d (.v (.int .i64 0)), .d (.v (.bool false)), .d (.v (.int .i64 0)), .d (.v (.slice none 0 0)), .d (.v (.slice none 0 0)), .d (.v (.slice none 0 0)), .d (.v (.slice none 0 0)), .d (.v (.string ⟨#[]⟩)), .d (.v (.int .i64 0)), .d (.v (.int .i64 0)), .d (.v (.int .i64 0)), .d (.v (.slice none 0 0)), .d (.v (.slice none 0 0)), .d (.v (.slice none 0 0)), .d (.v (.slice none 0 0)), .d (.v (.slice none 0 0)), .d (.v (.slice none 0 0)), .d (.v (.int .i64 0)), .d (.v (.bool false)), .d (.v (.int .i64 0)), .d (.v (.int .i64 0)), .d (.v (.int .i64 0)), .d (.v (.slice none 0 0)), .d (.v (.int .i64 0)), .d (.v (.string ⟨#[]⟩)), .d (.v (.string ⟨#[]⟩))]),
su (.store 32 (.t 2) (.t 12))])
 (.seq (.sem (.reg [sq 13 (.fieldA 0 (.t 2)),
sq 14 (.fieldA 7 (.t 13)),
⟨none, none, .store 1 (.t 14) (kB true), [], (.lone [2, 13])⟩]))
 (.seq (.regd [sq 15 (.load (some 17) (.t 1)),
sq 16 (.load (some 32) (.t 2)),
sq 17 (.call 23 [(kS ⟨#[99]⟩), (kS ⟨#[100, 98]⟩), (kI 13)]),
⟨(some 18), none, .call 23 [(kS ⟨#[97]⟩), (kS ⟨#[119, 101, 98]⟩), (kI 11)], [2], (.new [2])⟩,
⟨(some 19), none, .call 23 [(kS ⟨#[100]⟩), (kS ⟨#[119, 101, 98]⟩), (kI 0)], [2, 3], (.new [2, 3])⟩,
⟨(some 20), none, .bslice 32 [(.t 16), (.t 17), (.t 18), (.t 19)], [1, 2, 3, 4], (.new [1, 2, 3, 4])⟩,
⟨(some 21), none, .call 10 [(.t 15), (.t 20)], [0, 1, 2, 3, 4, 5], (.new [0, 1, 2, 3, 4, 5])⟩,
sq 3 (.zbox [.d (.v (.string ⟨#[]⟩)), .d (.v (.string ⟨#[]⟩)), .d (.v (.string ⟨#[]⟩)), .d (.v (.int .i64 0)), .d (.v (.int .i64 0)), .d (.v (.int .i64 0)), .d (.v (.int .i64 0)), .d (.v (.bool false)), .d (.v (.int .i64 0)), .d (.v (.slice none 0 0)), .d (.v (.slice none 0 0)), .d (.v (.slice none 0 0)), .d (.v (.slice none 0 0)), .d (.v (.slice none 0 0)), .d (.v (.slice none 0 0))]),
⟨none, none, .store 15 (.t 3) (.t 21), [0, 1, 2, 3, 4, 5, 6, 7], (.lone [])⟩])
 (.seq (.reg [sq 23 (.build [.d (.v (.string ⟨#[]⟩)), .d (.v (.string ⟨#[]⟩)), .d (.v (.int .i64 0)), .d (.v (.bool false)), .d (.v (.bool false))] [(0, 1, (kS ⟨#[97]⟩))]),
sq 24 (.build [.d (.v (.string ⟨#[]⟩)), .d (.v (.string ⟨#[]⟩)), .d (.v (.int .i64 0)), .d (.v (.bool false)), .d (.v (.bool false))] [(0, 1, (kS ⟨#[98]⟩))]),
sq 25 (.bslice 5 [(.t 23), (.t 24)]),
sq 26 (.build [.d (.v (.string ⟨#[]⟩)), .d (.v (.string ⟨#[]⟩)), .d (.v (.string ⟨#[]⟩)), .d (.v (.int .i64 0)), .d (.v (.int .i64 0)), .d (.v (.int .i64 0)), .d (.v (.int .i64 0)), .d (.v (.bool false)), .d (.v (.int .i64 0)), .d (.v (.slice none 0 0)), .d (.v (.slice none 0 0)), .d (.v (.slice none 0 0)), .d (.v (.slice none 0 0)), .d (.v (.slice none 0 0)), .d (.v (.slice none 0 0))] [(14, 1, (.t 25))]),
sq 27 (.build [.d (.v (.string ⟨#[]⟩)), .d (.v (.string ⟨#[]⟩)), .d (.v (.int .i64 0)), .d (.v (.bool false)), .d (.v (.bool false))] [(0, 1, (kS ⟨#[98]⟩)), (3, 1, (kB true))]),
sq 28 (.build [.d (.v (.string ⟨#[]⟩)), .d (.v (.string ⟨#[]⟩)), .d (.v (.int .i64 0)), .d (.v (.bool false)), .d (.v (.bool false))] [(0, 1, (kS ⟨#[99]⟩))]),
sq 29 (.bslice 5 [(.t 27), (.t 28)]),
sq 30 (.build [.d (.v (.string ⟨#[]⟩)), .d (.v (.string ⟨#[]⟩)), .d (.v (.string ⟨#[]⟩)), .d (.v (.int .i64 0)), .d (.v (.int .i64 0)), .d (.v (.int .i64 0)), .d (.v (.int .i64 0)), .d (.v (.bool false)), .d (.v (.int .i64 0)), .d (.v (.slice none 0 0)), .d (.v (.slice none 0 0)), .d (.v (.slice none 0 0)), .d (.v (.slice none 0 0)), .d (.v (.slice none 0 0)), .d (.v (.slice none 0 0))] [(14, 1, (.t 29))]),
sq 31 (.call 14 [(.t 26), (.t 30)]),
sq 22 (.mv (.t 31)),
sq 32 (.ext (.t 22) 0),
sq 33 (.ext (.t 22) 1),
sq 34 (.ext (.t 22) 2),
sq 4 (.mv (.t 32)),
sq 5 (.mv (.t 33)),
sq 6 (.mv (.t 34))])
 (.seq (.sem (.reg [sq 35 (.fieldA 0 (.t 3)),
sq 36 (.fieldA 0 (.t 35)),
sq 37 (.load none (.t 36)),
sq 38 (.bin .eql (.t 37) (kS ⟨#[69, 110, 100, 112, 111, 105, 110, 116, 83, 101, 116]⟩)),
sq 39 (.mv (.t 38)),
⟨(some 40), (some (39, true)), .fieldA 14 (.t 3), [], (.new [])⟩,
⟨(some 41), (some (39, true)), .load none (.t 40), [], (.new [])⟩,
⟨(some 42), (some (39, true)), .build [.d (.v (.string ⟨#[]⟩)), .d (.v (.string ⟨#[]⟩)), .d (.v (.int .i64 0)), .d (.v (.bool false)), .d (.v (.bool false))] [(0, 1, (kS ⟨#[80, 111, 100, 47, 110, 47, 97]⟩)), (2, 1, (kI 11)), (3, 1, (kB true))], [], (.new [])⟩,
⟨(some 43), (some (39, true)), .build [.d (.v (.string ⟨#[]⟩)), .d (.v (.string ⟨#[]⟩)), .d (.v (.int .i64 0)), .d (.v (.bool false)), .d (.v (.bool false))] [(0, 1, (kS ⟨#[80, 111, 100, 47, 110, 47, 98]⟩)), (2, 1, (kI 12)), (4, 1, (kB true))], [], (.new [])⟩,
⟨(some 44), (some (39, true)), .bslice 5 [(.t 42), (.t 43)], [], (.new [])⟩,
⟨(some 45), (some (39, true)), .call 13 [(.t 41), (.t 44)], [], (.new [])⟩,
sq 46 (.pick (.t 39) (.t 45) (kB false)),
sq 47 (.mv (.t 46)),
⟨(some 48), (some (47, true)), .mv (.t 4), [], (.new [])⟩,
⟨(some 49), (some (47, true)), .bslice 1 [(kS ⟨#[99]⟩)], [], (.new [])⟩,
⟨(some 50), (some (47, true)), .call 16 [(.t 48), (.t 49)], [], (.new [])⟩,
sq 51 (.pick (.t 47) (.t 50) (kB false)),
sq 52 (.mv (.t 51)),
⟨(some 53), (some (52, true)), .mv (.t 5), [], (.new [])⟩,
⟨(some 54), (some (52, true)), .bslice 1 [(kS ⟨#[97]⟩)], [], (.new [])⟩,
⟨(some 55), (some (52, true)), .call 16 [(.t 53), (.t 54)], [], (.new [])⟩,
sq 56 (.pick (.t 52) (.t 55) (kB false)),
sq 57 (.mv (.t 56)),
⟨(some 58), (some (57, true)), .mv (.t 6), [], (.new [])⟩,
⟨(some 59), (some (57, true)), .bslice 1 [(kS ⟨#[98]⟩)], [], (.new [])⟩,
⟨(some 60), (some (57, true)), .call 16 [(.t 58), (.t 59)], [], (.new [])⟩,
sq 61 (.pick (.t 57) (.t 60) (kB false)),
sq 0 (.mv (.t 61))]))
 .ret)))))))⟩
theorem a9_ok : afn Try.prog 9 = some a9.er := by kernel_rfl
theorem F9_ok {r : Bool} (h : F9 = some r) : CallD Try.prog 9 [] [] (tupV [.c (.d (.v (.bool r)))]) [] := by
 refine callS a9_ok (by simp [a9]) ?_
 rw [F9] at h
 simp only [a9, VW.down, Nat.reduceEqDiff, reduceCtorEq, Nat.reduceAdd, Nat.reduceLeDiff, Nat.reduceLT, Nat.reduceBEq, Nat.reduceSub, EE.down]
 refine t_bslice (enc := eS) (ys := [(⟨#[119, 101, 98]⟩ : ByteArray)]) rfl rfl (by simp [A1.cells]) (by first | rfl | (simp only [List.drop_zero, take_mapL]; rfl) | (simp only [lit, List.map_cons, List.map_nil, List.drop_zero, take_mapL, EE.down]; done) | (simp only [lit, List.map_cons, List.map_nil, List.drop_zero, take_mapL, EE.down]; rfl)) ?_
 refine ww ?_
 refine t_bslice (enc := eRequirement) (ys := [(⟨(⟨#[97, 112, 112]⟩ : ByteArray), 1, [(⟨#[119, 101, 98]⟩ : ByteArray)]⟩ : Requirement)]) rfl rfl (by simp [A1.cells]) (by first | rfl | (simp only [List.drop_zero, take_mapL]; rfl) | (simp only [lit, List.map_cons, List.map_nil, List.drop_zero, take_mapL, EE.down]; done) | (simp only [lit, List.map_cons, List.map_nil, List.drop_zero, take_mapL, EE.down]; rfl)) ?_
 refine ww ?_
 obtain ⟨t1, ht1, h⟩ := bi h
 refine cN [] (F23_ok ht1) trivial ?_
 refine ww ?_
 obtain ⟨o2, ho, h⟩ := bi h
 refine cutS (fun s => s = ⟨[(1, .one (.c (.pt 0 0))), (2, .one (.c (.pt 1 0)))], [some (.box [.d (.v (.string ((⟨#[]⟩ : ByteArray)))), .d (.v (.string ((⟨#[110]⟩ : ByteArray)))), .d (.v (.string ((⟨#[115]⟩ : ByteArray)))), .d (.v (.int .i64 0)), .d (.v (.int .i64 0)), .d (.v (.int .i64 0)), .d (.v (.int .i64 0)), .d (.v (.bool false)), .d (.v (.int .i64 0)), .d (.v (.slice none 0 0)), .d (.v (.slice none 0 0)), .d (.v (.slice none 0 0)), .d (.v (.slice none 0 0)), .d (.sl (([(⟨(⟨#[97, 112, 112]⟩ : ByteArray), 1, [(⟨#[119, 101, 98]⟩ : ByteArray)]⟩ : Requirement)]).map eRequirement)), .d (.v (.slice none 0 0)), .d (.v (.bool false)), .d (.v (.int .i64 0))]), some (.box [.d (.v (.string ((⟨#[80, 111, 100]⟩ : ByteArray)))), .d (.v (.string ((⟨#[110]⟩ : ByteArray)))), .d (.v (.string (((⟨#[98]⟩ : ByteArray))))), .d (.v (.int .i64 0)), .d (.v (.int .i64 0)), .d (.v (.int .i64 0)), .d (.v (.int .i64 0)), .d (.v (.bool true)), .d (.v (.int .i64 0)), .d (.sl (([(⟨(⟨#[97, 112, 112]⟩ : ByteArray), ((⟨#[119, 101, 98]⟩ : ByteArray))⟩ : Label)]).map eLabel)), .d (.sl (([] : List Owner).map eOwner)), .d (.sl (([] : List ByteArray).map eS)), .d (.sl (([] : List Manager).map eManager)), .d (.v (.string ((⟨#[]⟩ : ByteArray)))), .d (.v (.int .i64 0)), .d (.v (.int .i64 0)), .d (.v (.int .i64 0)), .d (.sl (([] : List Container).map eContainer)), .d (.sl (([] : List Requirement).map eRequirement)), .d (.sl (([] : List NodeTerm).map eNodeTerm)), .d (.sl (([] : List PodTerm).map ePodTerm)), .d (.sl (([] : List SpreadRule).map eSpreadRule)), .d (.sl (([] : List Toleration).map eToleration)), .d (.v (.int .i64 1)), .d (.v (.bool true)), .d (.v (.int .i64 0)), .d (.v (.int .i64 0)), .d (.v (.int .i64 0)), .d (.sl (([] : List ContainerStatus).map eContainerStatus)), .d (.v (.int .i64 ((12 : Int)))), .d (.v (.string ((⟨#[]⟩ : ByteArray)))), .d (.v (.string ((⟨#[]⟩ : ByteArray))))])]⟩) ?_ ?_
 ·have h := ho
  clear ho
  refine ww ?_
  obtain rfl := Option.some.inj h
  exact eM [some 2, some 4] rfl
 ·rintro _ rfl
  clear ho
  refine ww ?_
  obtain ⟨t3, ht3, h⟩ := bi h
  refine cN [] (F23_ok ht3) trivial ?_
  refine ww ?_
  refine kD_new (by simp [wrs, allW, hset]) ?_
  refine ww ?_
  obtain ⟨t4, ht4, h⟩ := bi h
  refine cN [] (F23_ok ht4) trivial ?_
  refine ww ?_
  refine kD_new (by simp [wrs, allW, hset]) ?_
  refine ww ?_
  obtain ⟨t5, ht5, h⟩ := bi h
  refine cN [] (F23_ok ht5) trivial ?_
  refine ww ?_
  refine kD_new (by simp [wrs, allW, hset]) ?_
  refine ww ?_
  refine t_bslice (enc := ePod) (ys := (lit [(⟨(⟨(⟨#[80, 111, 100]⟩ : ByteArray), (⟨#[110]⟩ : ByteArray), ((⟨#[98]⟩ : ByteArray)), 0, 0, 0, 0, true, 0, [(⟨(⟨#[97, 112, 112]⟩ : ByteArray), ((⟨#[119, 101, 98]⟩ : ByteArray))⟩ : Label)], [], [], []⟩ : Meta), (⟨(⟨#[]⟩ : ByteArray), 0, 0, 0, [], [], [], [], [], []⟩ : PodSpec), (⟨1, true, 0, 0, 0, [], (12 : Int), (⟨#[]⟩ : ByteArray), (⟨#[]⟩ : ByteArray)⟩ : PodStatus)⟩ : Pod), (⟨(⟨(⟨#[80, 111, 100]⟩ : ByteArray), (⟨#[110]⟩ : ByteArray), ((⟨#[99]⟩ : ByteArray)), 0, 0, 0, 0, false, 0, [(⟨(⟨#[97, 112, 112]⟩ : ByteArray), ((⟨#[100, 98]⟩ : ByteArray))⟩ : Label)], [], [], []⟩ : Meta), (⟨(⟨#[]⟩ : ByteArray), 0, 0, 0, [], [], [], [], [], []⟩ : PodSpec), (⟨1, true, 0, 0, 0, [], (13 : Int), (⟨#[]⟩ : ByteArray), (⟨#[]⟩ : ByteArray)⟩ : PodStatus)⟩ : Pod), (⟨(⟨(⟨#[80, 111, 100]⟩ : ByteArray), (⟨#[110]⟩ : ByteArray), ((⟨#[97]⟩ : ByteArray)), 0, 0, 0, 0, false, 0, [(⟨(⟨#[97, 112, 112]⟩ : ByteArray), ((⟨#[119, 101, 98]⟩ : ByteArray))⟩ : Label)], [], [], []⟩ : Meta), (⟨(⟨#[]⟩ : ByteArray), 0, 0, 0, [], [], [], [], [], []⟩ : PodSpec), (⟨1, true, 0, 0, 0, [], (11 : Int), (⟨#[]⟩ : ByteArray), (⟨#[]⟩ : ByteArray)⟩ : PodStatus)⟩ : Pod), (⟨(⟨(⟨#[80, 111, 100]⟩ : ByteArray), (⟨#[110]⟩ : ByteArray), ((⟨#[100]⟩ : ByteArray)), 0, 0, 0, 0, false, 0, [(⟨(⟨#[97, 112, 112]⟩ : ByteArray), ((⟨#[119, 101, 98]⟩ : ByteArray))⟩ : Label)], [], [], []⟩ : Meta), (⟨(⟨#[]⟩ : ByteArray), 0, 0, 0, [], [], [], [], [], []⟩ : PodSpec), (⟨1, true, 0, 0, 0, [], (0 : Int), (⟨#[]⟩ : ByteArray), (⟨#[]⟩ : ByteArray)⟩ : PodStatus)⟩ : Pod)])) rfl rfl (by simp [A1.cells]) (by first | rfl | (simp only [List.drop_zero, take_mapL]; rfl) | (simp only [lit, List.map_cons, List.map_nil, List.drop_zero, take_mapL, EE.down]; done) | (simp only [lit, List.map_cons, List.map_nil, List.drop_zero, take_mapL, EE.down]; rfl)) ?_
  refine ww ?_
  refine kD_own (by simp [wrs, allW, hset, ownW]) ?_
  refine ww ?_
  obtain ⟨t6, ht6, h⟩ := bi h
  refine callX_gen (as1 := [.agg [.d (.v (.string ((⟨#[]⟩ : ByteArray)))), .d (.v (.string ((⟨#[110]⟩ : ByteArray)))), .d (.v (.string ((⟨#[115]⟩ : ByteArray)))), .d (.v (.int .i64 0)), .d (.v (.int .i64 0)), .d (.v (.int .i64 0)), .d (.v (.int .i64 0)), .d (.v (.bool false)), .d (.v (.int .i64 0)), .d (.sl []), .d (.sl []), .d (.sl []), .d (.sl []), .d (.sl (([(⟨(⟨#[97, 112, 112]⟩ : ByteArray), 1, [(⟨#[119, 101, 98]⟩ : ByteArray)]⟩ : Requirement)]).map eRequirement)), .d (.sl []), .d (.v (.bool false)), .d (.v (.int .i64 0))], .c (.d (.sl (((lit [(⟨(⟨(⟨#[80, 111, 100]⟩ : ByteArray), (⟨#[110]⟩ : ByteArray), ((⟨#[98]⟩ : ByteArray)), 0, 0, 0, 0, true, 0, [(⟨(⟨#[97, 112, 112]⟩ : ByteArray), ((⟨#[119, 101, 98]⟩ : ByteArray))⟩ : Label)], [], [], []⟩ : Meta), (⟨(⟨#[]⟩ : ByteArray), 0, 0, 0, [], [], [], [], [], []⟩ : PodSpec), (⟨1, true, 0, 0, 0, [], (12 : Int), (⟨#[]⟩ : ByteArray), (⟨#[]⟩ : ByteArray)⟩ : PodStatus)⟩ : Pod), (⟨(⟨(⟨#[80, 111, 100]⟩ : ByteArray), (⟨#[110]⟩ : ByteArray), ((⟨#[99]⟩ : ByteArray)), 0, 0, 0, 0, false, 0, [(⟨(⟨#[97, 112, 112]⟩ : ByteArray), ((⟨#[100, 98]⟩ : ByteArray))⟩ : Label)], [], [], []⟩ : Meta), (⟨(⟨#[]⟩ : ByteArray), 0, 0, 0, [], [], [], [], [], []⟩ : PodSpec), (⟨1, true, 0, 0, 0, [], (13 : Int), (⟨#[]⟩ : ByteArray), (⟨#[]⟩ : ByteArray)⟩ : PodStatus)⟩ : Pod), (⟨(⟨(⟨#[80, 111, 100]⟩ : ByteArray), (⟨#[110]⟩ : ByteArray), ((⟨#[97]⟩ : ByteArray)), 0, 0, 0, 0, false, 0, [(⟨(⟨#[97, 112, 112]⟩ : ByteArray), ((⟨#[119, 101, 98]⟩ : ByteArray))⟩ : Label)], [], [], []⟩ : Meta), (⟨(⟨#[]⟩ : ByteArray), 0, 0, 0, [], [], [], [], [], []⟩ : PodSpec), (⟨1, true, 0, 0, 0, [], (11 : Int), (⟨#[]⟩ : ByteArray), (⟨#[]⟩ : ByteArray)⟩ : PodStatus)⟩ : Pod), (⟨(⟨(⟨#[80, 111, 100]⟩ : ByteArray), (⟨#[110]⟩ : ByteArray), ((⟨#[100]⟩ : ByteArray)), 0, 0, 0, 0, false, 0, [(⟨(⟨#[97, 112, 112]⟩ : ByteArray), ((⟨#[119, 101, 98]⟩ : ByteArray))⟩ : Label)], [], [], []⟩ : Meta), (⟨(⟨#[]⟩ : ByteArray), 0, 0, 0, [], [], [], [], [], []⟩ : PodSpec), (⟨1, true, 0, 0, 0, [], (0 : Int), (⟨#[]⟩ : ByteArray), (⟨#[]⟩ : ByteArray)⟩ : PodStatus)⟩ : Pod)])).map ePod)))]) [(5, .arr 1 32 [])] [some 0, some 1, some 2, some 3, some 4, none] [] (F10_ok ht6) ⟨?_, rfl, ?_⟩ ?_ ?_ ?_ ?_ ?_ ?_ ?_ ?_
  · simp only [ZZ.down, Nat.reduceEqDiff, reduceCtorEq, Nat.reduceAdd, Nat.reduceLeDiff, Nat.reduceLT, Nat.reduceBNe, EE.down]
  · simp only [ZZ.down, Nat.reduceEqDiff, reduceCtorEq, Nat.reduceAdd, Nat.reduceLeDiff, Nat.reduceLT, Nat.reduceBNe, EE.down]
  · simp only [ZZ.down, Nat.reduceEqDiff, reduceCtorEq, Nat.reduceAdd, Nat.reduceLeDiff, Nat.reduceLT, Nat.reduceBNe, EE.down]
  · rfl
  · rfl
  · simp [liveAll, A1.live, C.live]
  · rfl
  · decide
  · exact trivial
  refine ww ?_
  refine kD_own (by simp [wrs, allW, hset, ownW]) ?_
  refine ww ?_
  refine kD_new (by simp [wrs, allW, hset]) ?_
  refine ww ?_
  refine t_bslice (enc := eEndpoint) (ys := [(⟨(⟨#[97]⟩ : ByteArray), (⟨#[]⟩ : ByteArray), 0, false, false⟩ : Endpoint), (⟨(⟨#[98]⟩ : ByteArray), (⟨#[]⟩ : ByteArray), 0, false, false⟩ : Endpoint)]) rfl rfl (by simp [A1.cells]) (by first | rfl | (simp only [List.drop_zero, take_mapL]; rfl) | (simp only [lit, List.map_cons, List.map_nil, List.drop_zero, take_mapL, EE.down]; done) | (simp only [lit, List.map_cons, List.map_nil, List.drop_zero, take_mapL, EE.down]; rfl)) ?_
  refine ww ?_
  refine t_bslice (enc := eEndpoint) (ys := [(⟨(⟨#[98]⟩ : ByteArray), (⟨#[]⟩ : ByteArray), 0, true, false⟩ : Endpoint), (⟨(⟨#[99]⟩ : ByteArray), (⟨#[]⟩ : ByteArray), 0, false, false⟩ : Endpoint)]) rfl rfl (by simp [A1.cells]) (by first | rfl | (simp only [List.drop_zero, take_mapL]; rfl) | (simp only [lit, List.map_cons, List.map_nil, List.drop_zero, take_mapL, EE.down]; done) | (simp only [lit, List.map_cons, List.map_nil, List.drop_zero, take_mapL, EE.down]; rfl)) ?_
  refine ww ?_
  obtain ⟨t7, ht7, h⟩ := bi h
  refine callX_borF (F14_ok ht7) (by simp only [borAs, bors, hp, List.getElem?_cons_zero, List.getElem?_cons_succ, Option.join_some, List.drop_zero, bor_full', true_and, Nat.zero_add, List.length_map, Nat.le_refl, nrm, List.length_cons, List.length_nil, Nat.reduceAdd, Nat.reduceLeDiff, List.take_succ_cons, List.take_zero, List.take_nil, List.map_cons, List.map_nil, List.length_set, EE.down]) rfl ⟨flat_rows (enc := eS) (fun _ => rfl) _, flat_rows (enc := eS) (fun _ => rfl) _, flat_rows (enc := eS) (fun _ => rfl) _, trivial⟩ ?_
  refine ww ?_
  obtain ⟨o8, ho, h⟩ := bi h
  refine cutS (fun s => s = ⟨[(0, .one (.c (.d (.v (.bool o8)))))], []⟩) ?_ ?_
  ·have h := ho
   clear ho
   refine ww ?_
   refine guardSh h (fun g9 h => ?_) (fun g9 h => ?_)
   ·refine ww ?_
    refine t_bslice (enc := eEndpoint) (ys := [(⟨(⟨#[80, 111, 100, 47, 110, 47, 97]⟩ : ByteArray), (⟨#[]⟩ : ByteArray), 11, true, false⟩ : Endpoint), (⟨(⟨#[80, 111, 100, 47, 110, 47, 98]⟩ : ByteArray), (⟨#[]⟩ : ByteArray), 12, false, true⟩ : Endpoint)]) rfl rfl (by simp [A1.cells]) (by first | rfl | (simp only [List.drop_zero, take_mapL]; rfl) | (simp only [lit, List.map_cons, List.map_nil, List.drop_zero, take_mapL, EE.down]; done) | (simp only [lit, List.map_cons, List.map_nil, List.drop_zero, take_mapL, EE.down]; rfl)) ?_
    refine ww ?_
    obtain ⟨t10, ht10, h⟩ := bi h
    refine callX_bor (F13_ok ht10) (by simp only [borAs, bors, hp, List.getElem?_cons_zero, List.getElem?_cons_succ, Option.join_some, List.drop_zero, bor_full', true_and, Nat.zero_add, List.length_map, Nat.le_refl, nrm, List.length_cons, List.length_nil, Nat.reduceAdd, Nat.reduceLeDiff, List.take_succ_cons, List.take_zero, List.take_nil, List.map_cons, List.map_nil, List.length_set, EE.down]) rfl ?_
    refine ww ?_
    refine guardSBh h (fun g11 h => ?_) (fun g11 h => ?_)
    ·refine ww ?_
     refine t_bslice (enc := eS) (ys := [(⟨#[99]⟩ : ByteArray)]) rfl rfl (by simp [A1.cells]) (by first | rfl | (simp only [List.drop_zero, take_mapL]; rfl) | (simp only [lit, List.map_cons, List.map_nil, List.drop_zero, take_mapL, EE.down]; done) | (simp only [lit, List.map_cons, List.map_nil, List.drop_zero, take_mapL, EE.down]; rfl)) ?_
     refine ww ?_
     obtain ⟨t12, ht12, h⟩ := bi h
     refine callX_bor (F16_ok ht12) (by simp only [borAs, bors, hp, List.getElem?_cons_zero, List.getElem?_cons_succ, Option.join_some, List.drop_zero, bor_full', true_and, Nat.zero_add, List.length_map, Nat.le_refl, nrm, List.length_cons, List.length_nil, Nat.reduceAdd, Nat.reduceLeDiff, List.take_succ_cons, List.take_zero, List.take_nil, List.map_cons, List.map_nil, List.length_set, EE.down]) rfl ?_
     refine ww ?_
     refine guardSBh h (fun g13 h => ?_) (fun g13 h => ?_)
     ·refine ww ?_
      refine t_bslice (enc := eS) (ys := [(⟨#[97]⟩ : ByteArray)]) rfl rfl (by simp [A1.cells]) (by first | rfl | (simp only [List.drop_zero, take_mapL]; rfl) | (simp only [lit, List.map_cons, List.map_nil, List.drop_zero, take_mapL, EE.down]; done) | (simp only [lit, List.map_cons, List.map_nil, List.drop_zero, take_mapL, EE.down]; rfl)) ?_
      refine ww ?_
      obtain ⟨t14, ht14, h⟩ := bi h
      refine callX_bor (F16_ok ht14) (by simp only [borAs, bors, hp, List.getElem?_cons_zero, List.getElem?_cons_succ, Option.join_some, List.drop_zero, bor_full', true_and, Nat.zero_add, List.length_map, Nat.le_refl, nrm, List.length_cons, List.length_nil, Nat.reduceAdd, Nat.reduceLeDiff, List.take_succ_cons, List.take_zero, List.take_nil, List.map_cons, List.map_nil, List.length_set, EE.down]) rfl ?_
      refine ww ?_
      refine guardSBh h (fun g15 h => ?_) (fun g15 h => ?_)
      ·refine ww ?_
       refine t_bslice (enc := eS) (ys := [(⟨#[98]⟩ : ByteArray)]) rfl rfl (by simp [A1.cells]) (by first | rfl | (simp only [List.drop_zero, take_mapL]; rfl) | (simp only [lit, List.map_cons, List.map_nil, List.drop_zero, take_mapL, EE.down]; done) | (simp only [lit, List.map_cons, List.map_nil, List.drop_zero, take_mapL, EE.down]; rfl)) ?_
       refine ww ?_
       obtain ⟨t16, ht16, h⟩ := bi h
       refine callX_bor (F16_ok ht16) (by simp only [borAs, bors, hp, List.getElem?_cons_zero, List.getElem?_cons_succ, Option.join_some, List.drop_zero, bor_full', true_and, Nat.zero_add, List.length_map, Nat.le_refl, nrm, List.length_cons, List.length_nil, Nat.reduceAdd, Nat.reduceLeDiff, List.take_succ_cons, List.take_zero, List.take_nil, List.map_cons, List.map_nil, List.length_set, EE.down]) rfl ?_
       refine ww ?_
       obtain rfl := Option.some.inj h
       exact eM [] rfl
      ·refine ww ?_
       obtain rfl := Option.some.inj h
       exact eM [] rfl
     ·refine ww ?_
      obtain rfl := Option.some.inj h
      exact eM [] rfl
    ·refine ww ?_
     obtain rfl := Option.some.inj h
     exact eM [] rfl
   ·refine ww ?_
    obtain rfl := Option.some.inj h
    exact eM [] rfl
  ·rintro _ rfl
   clear ho
   refine ww ?_
   obtain rfl := Option.some.inj h
   exact eF []

/- orchestrator/orchestratorref55.find -/
def F36_l1 (x1 : ByteArray) : List Endpoint → Nat → Option ((Int) ⊕ (Unit))
  | [], o1_0 => some (Sum.inr (()))
  | xo1 :: xs, o1_0 => (if xo1.Pod = x1 then (some ((o1_0 : Int))).map Sum.inl else F36_l1 x1 xs (o1_0 + 1))
def F36 (x0 : (List Endpoint)) (x1 : ByteArray) : Option (Int) := (((ck (0 ≤ x0.length ∧ x0.length ≤ 4294967290)).bind fun u4 => F36_l1 x1 x0 0 : Option ((Int) ⊕ (Unit))).bind fun o1 => match o1 with | Sum.inl f => some f | Sum.inr po1 => some ((-1)))
def a36 : AFn := ⟨20, [(.tmp 4)],
 (.seq (.reg [sq 4 (.mv (kI 0))])
 (.seq (.seq (.reg [sq 5 (.mv (kI 0))])
 (.sem (.block 0 (.loop (.seq (.seq (.reg [sq 6 (.mv (.t 5)),
sq 7 (.mv (.t 0)),
sq 8 (.len (.t 7)),
sq 9 (.bin .lss (.t 6) (.t 8))])
 (.cond (.t 9)
 .skip
 (.exit 0)))
 (.seq (.block 1 (.seq (.reg [sq 12 (.mv (.t 0)),
sq 13 (.mv (.t 5)),
sq 14 (.indexA 5 (.t 12) (.t 13)),
sq 15 (.fieldA 0 (.t 14)),
sq 16 (.load none (.t 15)),
sq 17 (.mv (.t 1)),
sq 18 (.bin .eql (.t 16) (.t 17))])
 (.cond (.t 18)
 (.seq (.reg [sq 19 (.mv (.t 5)),
sq 4 (.mv (.t 19))])
 .ret)
 .skip)))
 (.reg [sq 10 (.mv (.t 5)),
sq 11 (.bin .add (.t 10) (kI 1)),
sq 5 (.mv (.t 11))])))))))
 (.seq (.reg [sq 4 (.mv (kI (-1)))])
 .ret)))⟩
theorem a36_ok : afn Try.prog 36 = some a36.er := by kernel_rfl
theorem F36_ok {x0 : (List Endpoint)} {x1 : ByteArray} {r : Int} (h : F36 x0 x1 = some r) : CallD Try.prog 36 [.c (.d (.sl (x0.map eEndpoint))), .c (.d (.v (.string x1)))] [] (tupV [.c (.d (.v (.int .i64 r)))]) [] := by
 refine callS a36_ok (by simp [a36]) ?_
 rw [F36] at h
 simp only [a36, VW.down, Nat.reduceEqDiff, reduceCtorEq, Nat.reduceAdd, Nat.reduceLeDiff, Nat.reduceLT, Nat.reduceBEq, Nat.reduceSub, EE.down]
 obtain ⟨o1, ho, h⟩ := bi h
 refine cutS (fun s => ∃ po1, o1 = Sum.inr po1 ∧ s = ⟨[], []⟩) ?_ ?_
 ·have h0o1 := h
  have h := ho
  clear ho
  obtain ⟨_, hk, h⟩ := bi h
  have hk := ck_some hk
  refine ww ?_
  refine bL (fun j s => ∃ (o1_0 : Nat), (o1_0 ≤ x0.length ∧ j = x0.length - o1_0) ∧ s = ⟨[(0, .one (.c (.d (.sl (x0.map eEndpoint))))), (1, .one (.c (.d (.v (.string x1))))), (5, .one (.c (.d (.v (.int .i64 ((o1_0 : Int)))))))], []⟩ ∧ F36_l1 x1 (x0.drop o1_0) o1_0 = some o1) (x0.length - 0) [] ⟨0, ⟨hk.1, rfl⟩, rfl, h⟩ ?_
  rintro _ _ ⟨o1_0, ⟨hi, rfl⟩, rfl, h⟩
  refine ww ?_
  refine condS (fun c2 => ?_) (fun c2 => ?_)
  ·obtain ⟨xo1, hxo1, hd⟩ := countY (show (o1_0 : Int) < (x0.length : Int) from c2)
   rw [hd, F36_l1] at h
   refine ww ?_
   refine t_idxF (enc := eEndpoint) (xs := x0) rfl rfl hxo1 rfl ?_
   refine ww ?_
   refine condSh h (fun c3 h => ?_) (fun c3 h => ?_)
   ·refine ww ?_
    obtain ⟨fh0o1, hfh0o1, rfl⟩ := Option.map_eq_some_iff.1 h
    have h := hfh0o1.trans h0o1
    obtain rfl := Option.some.inj h
    exact eF []
   ·refine ww ?_
    rw [wrapN (by omega)]
    exact eL' (x0.length - (o1_0 + 1)) [] ⟨o1_0 + 1, ⟨by omega, rfl⟩, rfl, h⟩ (by omega)
  ·rw [countN (show ¬ ((o1_0 : Int) < (x0.length : Int)) from c2), F36_l1] at h
   refine ww ?_
   obtain rfl := Option.some.inj h
   exact eM [] ⟨_, rfl, rfl⟩
 ·rintro _ ⟨po1, rfl, rfl⟩
  clear ho
  dsimp only at h
  refine ww ?_
  obtain rfl := Option.some.inj h
  exact eF []

/- orchestrator/orchestratorref55.add -/
def F37_l1 (x0 : (List ByteArray)) (x1 : ByteArray) : Nat → Int → Option (Int)
  | 0, _ => none
  | k + 1, o1_0 => (((if o1_0 < (x0.length : Int) then (rdI x0 o1_0).bind fun y4 => some (Op.bytesLess y4.toList x1.toList) else some false)).bind fun o2 => (if o2 = true then F37_l1 x0 x1 k ((IntKind.i64.wrap (o1_0 + 1))) else some o1_0))
def F37 (x0 : (List ByteArray)) (x1 : ByteArray) : Option ((List ByteArray)) := ((F37_l1 x0 x1 1099511627776 0).bind fun o1 => (((if o1 < (x0.length : Int) then (rdI x0 o1).bind fun y8 => some (decide (y8 = x1)) else some false)).bind fun o6 => (if o6 = true then some x0 else (slI x0 0 o1).bind fun s10 => (apI ([] : List ByteArray) s10).bind fun a11 => (apI a11 ([x1])).bind fun a12 => (slI x0 o1 ((x0.length : Int))).bind fun s13 => (apI a12 s13).bind fun a14 => some a14)))
def a37 : AFn := ⟨49, [(.tmp 4)],
 (.seq (.reg [sq 4 (.mv kN)])
 (.seq (.reg [sq 5 (.mv (kI 0))])
 (.seq (.sem (.block 0 (.loop (.seq (.seq (.sem (.reg [sq 7 (.mv (.t 5)),
sq 8 (.mv (.t 0)),
sq 9 (.len (.t 8)),
sq 10 (.bin .lss (.t 7) (.t 9)),
sq 11 (.mv (.t 10)),
⟨(some 12), (some (11, true)), .mv (.t 0), [], (.new [])⟩,
⟨(some 13), (some (11, true)), .mv (.t 5), [], (.new [])⟩,
⟨(some 14), (some (11, true)), .indexA 1 (.t 12) (.t 13), [], (.new [])⟩,
⟨(some 15), (some (11, true)), .load none (.t 14), [], (.new [])⟩,
⟨(some 16), (some (11, true)), .mv (.t 1), [], (.new [])⟩,
⟨(some 17), (some (11, true)), .bin .lss (.t 15) (.t 16), [], (.new [])⟩,
⟨(some 18), none, .pick (.t 11) (.t 17) (kB false), [], (.lone [8, 12, 14])⟩]))
 (.cond (.t 18)
 .skip
 (.exit 0)))
 (.block 1 (.reg [sq 19 (.mv (.t 5)),
sq 20 (.bin .add (.t 19) (kI 1)),
sq 5 (.mv (.t 20))]))))))
 (.seq (.seq (.sem (.reg [sq 21 (.mv (.t 5)),
sq 22 (.mv (.t 0)),
sq 23 (.len (.t 22)),
sq 24 (.bin .lss (.t 21) (.t 23)),
sq 25 (.mv (.t 24)),
⟨(some 26), (some (25, true)), .mv (.t 0), [], (.new [])⟩,
⟨(some 27), (some (25, true)), .mv (.t 5), [], (.new [])⟩,
⟨(some 28), (some (25, true)), .indexA 1 (.t 26) (.t 27), [], (.new [])⟩,
⟨(some 29), (some (25, true)), .load none (.t 28), [], (.new [])⟩,
⟨(some 30), (some (25, true)), .mv (.t 1), [], (.new [])⟩,
⟨(some 31), (some (25, true)), .bin .eql (.t 29) (.t 30), [], (.new [])⟩,
⟨(some 32), none, .pick (.t 25) (.t 31) (kB false), [], (.lone [22, 26, 28])⟩]))
 (.cond (.t 32)
 (.seq (.reg [sq 33 (.mv (.t 0)),
sq 4 (.mv (.t 33))])
 .ret)
 .skip))
 (.seq (.reg [sq 34 (.bslice 1 []),
sq 35 (.mv (.t 0)),
sq 36 (.mv (.t 5)),
sq 37 (.slice 1 (.t 35) none (some (.t 36)) none),
sq 38 (.app 1 16 (.t 34) (.t 37)),
sq 6 (.mv (.t 38))])
 (.seq (.reg [sq 39 (.mv (.t 6)),
sq 40 (.mv (.t 1)),
sq 41 (.bslice 1 [(.t 40)]),
sq 42 (.app 1 16 (.t 39) (.t 41)),
sq 6 (.mv (.t 42))])
 (.seq (.reg [sq 43 (.mv (.t 6)),
sq 44 (.mv (.t 0)),
sq 45 (.mv (.t 5)),
sq 46 (.slice 1 (.t 44) (some (.t 45)) none none),
sq 47 (.app 1 16 (.t 43) (.t 46)),
sq 6 (.mv (.t 47))])
 (.seq (.reg [sq 48 (.mv (.t 6)),
sq 4 (.mv (.t 48))])
 .ret))))))))⟩
theorem a37_ok : afn Try.prog 37 = some a37.er := by kernel_rfl
theorem F37_ok {x0 : (List ByteArray)} {x1 : ByteArray} {r : (List ByteArray)} (h : F37 x0 x1 = some r) : CallD Try.prog 37 [.c (.d (.sl (x0.map eS))), .c (.d (.v (.string x1)))] [] (tupV [.c (.d (.sl (r.map eS)))]) [] := by
 refine callS a37_ok (by simp [a37]) ?_
 rw [F37] at h
 simp only [a37, VW.down, Nat.reduceEqDiff, reduceCtorEq, Nat.reduceAdd, Nat.reduceLeDiff, Nat.reduceLT, Nat.reduceBEq, Nat.reduceSub, EE.down]
 obtain ⟨o1, ho, h⟩ := bi h
 refine cutS (fun s => s = ⟨[(0, .one (.c (.d (.sl (x0.map eS))))), (1, .one (.c (.d (.v (.string x1))))), (5, .one (.c (.d (.v (.int .i64 o1)))))], []⟩) ?_ ?_
 ·have h := ho
  clear ho
  refine ww ?_
  refine bL (fun j s => ∃ (o1_0 : Int), s = ⟨[(0, .one (.c (.d (.sl (x0.map eS))))), (1, .one (.c (.d (.v (.string x1))))), (5, .one (.c (.d (.v (.int .i64 o1_0)))))], []⟩ ∧ F37_l1 x0 x1 j o1_0 = some o1) 1099511627776 [] ⟨0, rfl, h⟩ ?_
  rintro j _ ⟨o1_0, rfl, h⟩
  cases j with
  | zero => cases (show (none : Option _) = some _ from h)
  | succ j =>
   rw [F37_l1] at h
   refine ww ?_
   obtain ⟨o2, ho, h⟩ := bi h
   refine cutS (fun s => s = ⟨[(0, .one (.c (.d (.sl (x0.map eS))))), (1, .one (.c (.d (.v (.string x1))))), (5, .one (.c (.d (.v (.int .i64 o1_0))))), (18, .one (.c (.d (.v (.bool o2)))))], []⟩) ?_ ?_
   ·have h := ho
    clear ho
    refine ww ?_
    refine guardSh h (fun g3 h => ?_) (fun g3 h => ?_)
    ·refine ww ?_
     obtain ⟨y4, hy4, h⟩ := bi h
     refine t_idxF (enc := eS) (xs := x0) rfl rfl hy4 rfl ?_
     refine ww ?_
     obtain rfl := Option.some.inj h
     exact eM [] rfl
    ·refine ww ?_
     obtain rfl := Option.some.inj h
     exact eM [] rfl
   ·rintro _ rfl
    clear ho
    refine ww ?_
    refine condBh h (fun c5 h => ?_) (fun c5 h => ?_)
    ·refine ww ?_
     exact eL' j [] ⟨(IntKind.i64.wrap (o1_0 + 1)), rfl, h⟩ (Nat.lt_succ_self _)
    ·refine ww ?_
     obtain rfl := Option.some.inj h
     exact eM [] rfl
 ·rintro _ rfl
  clear ho
  refine ww ?_
  obtain ⟨o6, ho, h⟩ := bi h
  refine cutS (fun s => s = ⟨[(0, .one (.c (.d (.sl (x0.map eS))))), (1, .one (.c (.d (.v (.string x1))))), (5, .one (.c (.d (.v (.int .i64 o1))))), (32, .one (.c (.d (.v (.bool o6)))))], []⟩) ?_ ?_
  ·have h := ho
   clear ho
   refine ww ?_
   refine guardSh h (fun g7 h => ?_) (fun g7 h => ?_)
   ·refine ww ?_
    obtain ⟨y8, hy8, h⟩ := bi h
    refine t_idxF (enc := eS) (xs := x0) rfl rfl hy8 rfl ?_
    refine ww ?_
    obtain rfl := Option.some.inj h
    exact eM [] rfl
   ·refine ww ?_
    obtain rfl := Option.some.inj h
    exact eM [] rfl
  ·rintro _ rfl
   clear ho
   refine ww ?_
   refine condBh h (fun c9 h => ?_) (fun c9 h => ?_)
   ·refine ww ?_
    obtain rfl := Option.some.inj h
    exact eF []
   ·refine ww ?_
    refine t_bslice (enc := eS) (ys := ([] : List ByteArray)) rfl rfl (by simp [A1.cells]) (by first | rfl | (simp only [List.drop_zero, take_mapL]; rfl) | (simp only [lit, List.map_cons, List.map_nil, List.drop_zero, take_mapL, EE.down]; done) | (simp only [lit, List.map_cons, List.map_nil, List.drop_zero, take_mapL, EE.down]; rfl)) ?_
    refine ww ?_
    obtain ⟨s10, hs10, h⟩ := bi h
    refine t_slice (enc := eS) (xs := x0) rfl rfl rfl (fun _ => rfl) hs10 ?_
    refine ww ?_
    obtain ⟨a11, ha11, h⟩ := bi h
    refine t_app (enc := eS) (xs := ([] : List ByteArray)) rfl rfl (by first | rfl | simp only [List.length_set] | exact (clrL_len (slI_len (by assumption))).symm) rfl (rows_frz (enc := eS) (fun _ => rfl)) ha11 ?_
    refine ww ?_
    refine t_bslice (enc := eS) (ys := [x1]) rfl rfl (by simp [A1.cells]) (by first | rfl | (simp only [List.drop_zero, take_mapL]; rfl) | (simp only [lit, List.map_cons, List.map_nil, List.drop_zero, take_mapL, EE.down]; done) | (simp only [lit, List.map_cons, List.map_nil, List.drop_zero, take_mapL, EE.down]; rfl)) ?_
    refine ww ?_
    obtain ⟨a12, ha12, h⟩ := bi h
    refine t_app (enc := eS) (xs := a11) rfl rfl (by first | rfl | simp only [List.length_set] | exact (clrL_len (slI_len (by assumption))).symm) rfl (rows_full (enc := eS) (by first | rfl | simp only [List.length_set] | exact (clrL_len (slI_len (by assumption))).symm) rfl) ha12 ?_
    refine ww ?_
    obtain ⟨s13, hs13, h⟩ := bi h
    refine t_slice (enc := eS) (xs := x0) rfl rfl rfl (fun _ => rfl) hs13 ?_
    refine ww ?_
    obtain ⟨a14, ha14, h⟩ := bi h
    refine t_app (enc := eS) (xs := a12) rfl rfl (by first | rfl | simp only [List.length_set] | exact (clrL_len (slI_len (by assumption))).symm) rfl (rows_frz (enc := eS) (fun _ => rfl)) ha14 ?_
    refine ww ?_
    obtain rfl := Option.some.inj h
    exact eF []

/- orchestrator/orchestratorref55.Diff -/
def F15_l1 (x0 : EndpointSet) (x1 : EndpointSet) : List Endpoint → Nat → ((List ByteArray)) → ((List ByteArray)) → Option (((List ByteArray)) × ((List ByteArray)))
  | [], o1_2, o1_0, o1_1 => some ((o1_0, o1_1))
  | xo1 :: xs, o1_2, o1_0, o1_1 => (((F36 x0.Items xo1.Pod).bind fun t4 => (if t4 < 0 then (F37 o1_0 xo1.Pod).bind fun t6 => some ((t6, o1_1)) else (rdI x0.Items t4).bind fun y7 => (F36 x1.Items xo1.Pod).bind fun t8 => (rdI x1.Items t8).bind fun y9 => (if (nb ((decide (y7.Pod = y9.Pod) && (decide (y7.Node = y9.Node) && (decide (y7.Address = y9.Address) && ((y7.Ready == y9.Ready) && (y7.Terminating == y9.Terminating))))))) = true then (F37 o1_1 xo1.Pod).bind fun t11 => some ((o1_0, t11)) else some ((o1_0, o1_1))))).bind fun o3 => F15_l1 x0 x1 xs (o1_2 + 1) o3.1 o3.2)
def F15_l13 (x1 : EndpointSet) : List Endpoint → Nat → ((List ByteArray)) → Option (((List ByteArray)))
  | [], o13_1, o13_0 => some o13_0
  | xo13 :: xs, o13_1, o13_0 => (((F36 x1.Items xo13.Pod).bind fun t16 => (if t16 < 0 then (F37 o13_0 xo13.Pod).bind fun t18 => some t18 else some o13_0)).bind fun o15 => F15_l13 x1 xs (o13_1 + 1) o15)
def F15 (x0 : EndpointSet) (x1 : EndpointSet) : Option (((List ByteArray)) × ((List ByteArray)) × ((List ByteArray))) := (((ck (0 ≤ x1.Items.length ∧ x1.Items.length ≤ 4294967290)).bind fun u12 => F15_l1 x0 x1 x1.Items 0 ([]) ([])).bind fun o1 => (((ck (0 ≤ x0.Items.length ∧ x0.Items.length ≤ 4294967290)).bind fun u19 => F15_l13 x1 x0.Items 0 ([])).bind fun o13 => some ((o1.1, o13, o1.2))))
def a15 : AFn := ⟨81, [(.tmp 4), (.tmp 5), (.tmp 6)],
 (.seq (.reg [sq 2 (.box (.t 0)),
sq 3 (.box (.t 1)),
sq 4 (.mv kN),
sq 5 (.mv kN),
sq 6 (.mv kN)])
 (.seq (.reg [sq 7 (.mv kN),
sq 8 (.mv kN),
sq 9 (.mv kN)])
 (.seq (.seq (.reg [sq 10 (.mv (kI 0))])
 (.sem (.block 0 (.loop (.seq (.seq (.reg [sq 14 (.mv (.t 10)),
sq 15 (.fieldA 14 (.t 3)),
sq 16 (.load none (.t 15)),
sq 17 (.len (.t 16)),
sq 18 (.bin .lss (.t 14) (.t 17))])
 (.cond (.t 18)
 .skip
 (.exit 0)))
 (.seq (.sem (.block 1 (.seq (.reg [sq 21 (.fieldA 14 (.t 3)),
sq 22 (.load none (.t 21)),
sq 23 (.mv (.t 10)),
sq 24 (.indexA 5 (.t 22) (.t 23)),
sq 25 (.fieldA 0 (.t 24)),
sq 26 (.load none (.t 25)),
sq 11 (.mv (.t 26))])
 (.seq (.reg [sq 27 (.fieldA 14 (.t 2)),
sq 28 (.load none (.t 27)),
sq 29 (.mv (.t 11)),
sq 30 (.call 36 [(.t 28), (.t 29)]),
sq 12 (.mv (.t 30))])
 (.seq (.reg [sq 31 (.mv (.t 12)),
sq 32 (.bin .lss (.t 31) (kI 0))])
 (.cond (.t 32)
 (.reg [sq 33 (.mv (.t 7)),
sq 34 (.mv (.t 11)),
sq 35 (.call 37 [(.t 33), (.t 34)]),
sq 7 (.mv (.t 35))])
 (.seq (.regd [sq 36 (.fieldA 14 (.t 2)),
sd 37 (.load none (.t 36)) [0],
sq 38 (.mv (.t 12)),
sd 39 (.indexA 5 (.t 37) (.t 38)) [0, 1, 2],
sd 40 (.load (some 5) (.t 39)) [0, 1, 2, 3],
sq 41 (.fieldA 14 (.t 3)),
sd 42 (.load none (.t 41)) [5],
sq 43 (.fieldA 14 (.t 3)),
sd 44 (.load none (.t 43)) [7],
sq 45 (.mv (.t 11)),
⟨(some 46), none, .call 36 [(.t 44), (.t 45)], [7, 8, 9], (.lone [2, 36, 37, 39, 3, 41])⟩,
sd 47 (.indexA 5 (.t 42) (.t 46)) [5, 6, 7, 8, 9, 10],
sd 48 (.load (some 5) (.t 47)) [5, 6, 7, 8, 9, 10, 11],
⟨(some 49), none, .eqs true [(0, 2), (1, 2), (2, 0), (3, 1), (4, 1)] (.t 40) (.t 48), [0, 1, 2, 3, 4, 5, 6, 7, 8, 9, 10, 11, 12], (.lone [])⟩])
 (.cond (.t 49)
 (.reg [sq 50 (.mv (.t 9)),
sq 51 (.mv (.t 11)),
sq 52 (.call 37 [(.t 50), (.t 51)]),
sq 9 (.mv (.t 52))])
 .skip))))))))
 (.reg [sq 19 (.mv (.t 10)),
sq 20 (.bin .add (.t 19) (kI 1)),
sq 10 (.mv (.t 20))])))))))
 (.seq (.seq (.reg [sq 13 (.mv (kI 0))])
 (.sem (.block 2 (.loop (.seq (.seq (.reg [sq 53 (.mv (.t 13)),
sq 54 (.fieldA 14 (.t 2)),
sq 55 (.load none (.t 54)),
sq 56 (.len (.t 55)),
sq 57 (.bin .lss (.t 53) (.t 56))])
 (.cond (.t 57)
 .skip
 (.exit 2)))
 (.seq (.sem (.block 3 (.seq (.regd [sq 60 (.fieldA 14 (.t 3)),
sd 61 (.load none (.t 60)) [0],
sq 62 (.fieldA 14 (.t 2)),
sd 63 (.load none (.t 62)) [2],
sq 64 (.mv (.t 13)),
sd 65 (.indexA 5 (.t 63) (.t 64)) [2, 3, 4],
sd 66 (.fieldA 0 (.t 65)) [2, 3, 4, 5],
sd 67 (.load none (.t 66)) [2, 3, 4, 5, 6],
⟨(some 68), none, .call 36 [(.t 61), (.t 67)], [0, 1, 2, 3, 4, 5, 6, 7], (.lone [])⟩,
sd 69 (.bin .lss (.t 68) (kI 0)) [0, 1, 2, 3, 4, 5, 6, 7, 8]])
 (.cond (.t 69)
 (.reg [sq 70 (.mv (.t 8)),
sq 71 (.fieldA 14 (.t 2)),
sq 72 (.load none (.t 71)),
sq 73 (.mv (.t 13)),
sq 74 (.indexA 5 (.t 72) (.t 73)),
sq 75 (.fieldA 0 (.t 74)),
sq 76 (.load none (.t 75)),
sq 77 (.call 37 [(.t 70), (.t 76)]),
sq 8 (.mv (.t 77))])
 .skip))))
 (.reg [sq 58 (.mv (.t 13)),
sq 59 (.bin .add (.t 58) (kI 1)),
sq 13 (.mv (.t 59))])))))))
 (.seq (.reg [sq 78 (.mv (.t 7)),
sq 79 (.mv (.t 8)),
sq 80 (.mv (.t 9)),
sq 4 (.mv (.t 78)),
sq 5 (.mv (.t 79)),
sq 6 (.mv (.t 80))])
 .ret)))))⟩
theorem a15_ok : afn Try.prog 15 = some a15.er := by kernel_rfl
theorem F15_ok {x0 : EndpointSet} {x1 : EndpointSet} {r : ((List ByteArray)) × ((List ByteArray)) × ((List ByteArray))} (h : F15 x0 x1 = some r) : CallD Try.prog 15 [.agg [.d (.v (.string x0.Meta.Kind)), .d (.v (.string x0.Meta.Namespace)), .d (.v (.string x0.Meta.Name)), .d (.v (.int .i64 x0.Meta.Uid)), .d (.v (.int .i64 x0.Meta.Version)), .d (.v (.int .i64 x0.Meta.Generation)), .d (.v (.int .i64 x0.Meta.Created)), .d (.v (.bool x0.Meta.Deleting)), .d (.v (.int .i64 x0.Meta.DeleteAt)), .d (.sl (x0.Meta.Labels.map eLabel)), .d (.sl (x0.Meta.Owners.map eOwner)), .d (.sl (x0.Meta.Finalizers.map eS)), .d (.sl (x0.Meta.Managers.map eManager)), .d (.sl (x0.Ports.map eServicePort)), .d (.sl (x0.Items.map eEndpoint))], .agg [.d (.v (.string x1.Meta.Kind)), .d (.v (.string x1.Meta.Namespace)), .d (.v (.string x1.Meta.Name)), .d (.v (.int .i64 x1.Meta.Uid)), .d (.v (.int .i64 x1.Meta.Version)), .d (.v (.int .i64 x1.Meta.Generation)), .d (.v (.int .i64 x1.Meta.Created)), .d (.v (.bool x1.Meta.Deleting)), .d (.v (.int .i64 x1.Meta.DeleteAt)), .d (.sl (x1.Meta.Labels.map eLabel)), .d (.sl (x1.Meta.Owners.map eOwner)), .d (.sl (x1.Meta.Finalizers.map eS)), .d (.sl (x1.Meta.Managers.map eManager)), .d (.sl (x1.Ports.map eServicePort)), .d (.sl (x1.Items.map eEndpoint))]] [] (tupV [.c (.d (.sl (r.1.map eS))), .c (.d (.sl (r.2.1.map eS))), .c (.d (.sl (r.2.2.map eS)))]) [] := by
 refine callS a15_ok (by simp [a15]) ?_
 rw [F15] at h
 simp only [a15, VW.down, Nat.reduceEqDiff, reduceCtorEq, Nat.reduceAdd, Nat.reduceLeDiff, Nat.reduceLT, Nat.reduceBEq, Nat.reduceSub, EE.down]
 obtain ⟨o1, ho, h⟩ := bi h
 refine cutS (fun s => s = ⟨[(2, .one (.c (.pt 0 0))), (3, .one (.c (.pt 1 0))), (7, .one (.c (.d (.sl (o1.1.map eS))))), (8, .one (.c (.d (.v (.slice none 0 0))))), (9, .one (.c (.d (.sl (o1.2.map eS)))))], [some (.box [.d (.v (.string x0.Meta.Kind)), .d (.v (.string x0.Meta.Namespace)), .d (.v (.string x0.Meta.Name)), .d (.v (.int .i64 x0.Meta.Uid)), .d (.v (.int .i64 x0.Meta.Version)), .d (.v (.int .i64 x0.Meta.Generation)), .d (.v (.int .i64 x0.Meta.Created)), .d (.v (.bool x0.Meta.Deleting)), .d (.v (.int .i64 x0.Meta.DeleteAt)), .d (.sl (x0.Meta.Labels.map eLabel)), .d (.sl (x0.Meta.Owners.map eOwner)), .d (.sl (x0.Meta.Finalizers.map eS)), .d (.sl (x0.Meta.Managers.map eManager)), .d (.sl (x0.Ports.map eServicePort)), .d (.sl (x0.Items.map eEndpoint))]), some (.box [.d (.v (.string x1.Meta.Kind)), .d (.v (.string x1.Meta.Namespace)), .d (.v (.string x1.Meta.Name)), .d (.v (.int .i64 x1.Meta.Uid)), .d (.v (.int .i64 x1.Meta.Version)), .d (.v (.int .i64 x1.Meta.Generation)), .d (.v (.int .i64 x1.Meta.Created)), .d (.v (.bool x1.Meta.Deleting)), .d (.v (.int .i64 x1.Meta.DeleteAt)), .d (.sl (x1.Meta.Labels.map eLabel)), .d (.sl (x1.Meta.Owners.map eOwner)), .d (.sl (x1.Meta.Finalizers.map eS)), .d (.sl (x1.Meta.Managers.map eManager)), .d (.sl (x1.Ports.map eServicePort)), .d (.sl (x1.Items.map eEndpoint))])]⟩) ?_ ?_
 ·have h := ho
  clear ho
  obtain ⟨_, hk, h⟩ := bi h
  have hk := ck_some hk
  refine ww ?_
  refine bL (fun j s => ∃ (o1_2 : Nat) (o1_0 : (List ByteArray)) (o1_1 : (List ByteArray)), (o1_2 ≤ x1.Items.length ∧ j = x1.Items.length - o1_2) ∧ s = ⟨[(2, .one (.c (.pt 0 0))), (3, .one (.c (.pt 1 0))), (7, .one (.c (.d (.sl (o1_0.map eS))))), (8, .one (.c (.d (.v (.slice none 0 0))))), (9, .one (.c (.d (.sl (o1_1.map eS))))), (10, .one (.c (.d (.v (.int .i64 ((o1_2 : Int)))))))], [some (.box [.d (.v (.string x0.Meta.Kind)), .d (.v (.string x0.Meta.Namespace)), .d (.v (.string x0.Meta.Name)), .d (.v (.int .i64 x0.Meta.Uid)), .d (.v (.int .i64 x0.Meta.Version)), .d (.v (.int .i64 x0.Meta.Generation)), .d (.v (.int .i64 x0.Meta.Created)), .d (.v (.bool x0.Meta.Deleting)), .d (.v (.int .i64 x0.Meta.DeleteAt)), .d (.sl (x0.Meta.Labels.map eLabel)), .d (.sl (x0.Meta.Owners.map eOwner)), .d (.sl (x0.Meta.Finalizers.map eS)), .d (.sl (x0.Meta.Managers.map eManager)), .d (.sl (x0.Ports.map eServicePort)), .d (.sl (x0.Items.map eEndpoint))]), some (.box [.d (.v (.string x1.Meta.Kind)), .d (.v (.string x1.Meta.Namespace)), .d (.v (.string x1.Meta.Name)), .d (.v (.int .i64 x1.Meta.Uid)), .d (.v (.int .i64 x1.Meta.Version)), .d (.v (.int .i64 x1.Meta.Generation)), .d (.v (.int .i64 x1.Meta.Created)), .d (.v (.bool x1.Meta.Deleting)), .d (.v (.int .i64 x1.Meta.DeleteAt)), .d (.sl (x1.Meta.Labels.map eLabel)), .d (.sl (x1.Meta.Owners.map eOwner)), .d (.sl (x1.Meta.Finalizers.map eS)), .d (.sl (x1.Meta.Managers.map eManager)), .d (.sl (x1.Ports.map eServicePort)), .d (.sl (x1.Items.map eEndpoint))])]⟩ ∧ F15_l1 x0 x1 (x1.Items.drop o1_2) o1_2 o1_0 o1_1 = some o1) (x1.Items.length - 0) [some 0, some 1] ⟨0, [], [], ⟨hk.1, rfl⟩, rfl, h⟩ ?_
  rintro _ _ ⟨o1_2, o1_0, o1_1, ⟨hi, rfl⟩, rfl, h⟩
  refine ww ?_
  refine condS (fun c2 => ?_) (fun c2 => ?_)
  ·obtain ⟨xo1, hxo1, hd⟩ := countY (show (o1_2 : Int) < (x1.Items.length : Int) from c2)
   rw [hd, F15_l1] at h
   refine ww ?_
   obtain ⟨o3, ho, h⟩ := bi h
   refine cutS (fun s => s = ⟨[(2, .one (.c (.pt 0 0))), (3, .one (.c (.pt 1 0))), (7, .one (.c (.d (.sl (o3.1.map eS))))), (8, .one (.c (.d (.v (.slice none 0 0))))), (9, .one (.c (.d (.sl (o3.2.map eS))))), (10, .one (.c (.d (.v (.int .i64 ((o1_2 : Int)))))))], [some (.box [.d (.v (.string x0.Meta.Kind)), .d (.v (.string x0.Meta.Namespace)), .d (.v (.string x0.Meta.Name)), .d (.v (.int .i64 x0.Meta.Uid)), .d (.v (.int .i64 x0.Meta.Version)), .d (.v (.int .i64 x0.Meta.Generation)), .d (.v (.int .i64 x0.Meta.Created)), .d (.v (.bool x0.Meta.Deleting)), .d (.v (.int .i64 x0.Meta.DeleteAt)), .d (.sl (x0.Meta.Labels.map eLabel)), .d (.sl (x0.Meta.Owners.map eOwner)), .d (.sl (x0.Meta.Finalizers.map eS)), .d (.sl (x0.Meta.Managers.map eManager)), .d (.sl (x0.Ports.map eServicePort)), .d (.sl (x0.Items.map eEndpoint))]), some (.box [.d (.v (.string x1.Meta.Kind)), .d (.v (.string x1.Meta.Namespace)), .d (.v (.string x1.Meta.Name)), .d (.v (.int .i64 x1.Meta.Uid)), .d (.v (.int .i64 x1.Meta.Version)), .d (.v (.int .i64 x1.Meta.Generation)), .d (.v (.int .i64 x1.Meta.Created)), .d (.v (.bool x1.Meta.Deleting)), .d (.v (.int .i64 x1.Meta.DeleteAt)), .d (.sl (x1.Meta.Labels.map eLabel)), .d (.sl (x1.Meta.Owners.map eOwner)), .d (.sl (x1.Meta.Finalizers.map eS)), .d (.sl (x1.Meta.Managers.map eManager)), .d (.sl (x1.Ports.map eServicePort)), .d (.sl (x1.Items.map eEndpoint))])]⟩) ?_ ?_
   ·have h := ho
    clear ho
    refine ww ?_
    refine t_idxF (enc := eEndpoint) (xs := x1.Items) rfl rfl hxo1 rfl ?_
    refine ww ?_
    obtain ⟨t4, ht4, h⟩ := bi h
    refine cN [] (F36_ok ht4) trivial ?_
    refine ww ?_
    refine condSh h (fun c5 h => ?_) (fun c5 h => ?_)
    ·refine ww ?_
     obtain ⟨t6, ht6, h⟩ := bi h
     refine cN [] (F37_ok ht6) trivial ?_
     refine ww ?_
     obtain rfl := Option.some.inj h
     exact eM [some 0, some 1] rfl
    ·refine ww ?_
     obtain ⟨y7, hy7, h⟩ := bi h
     refine t_idxF (enc := eEndpoint) (xs := x0.Items) rfl rfl hy7 rfl ?_
     refine ww ?_
     obtain ⟨t8, ht8, h⟩ := bi h
     refine cN [] (F36_ok ht8) trivial ?_
     refine ww ?_
     obtain ⟨y9, hy9, h⟩ := bi h
     refine t_idxF (enc := eEndpoint) (xs := x1.Items) rfl rfl hy9 rfl ?_
     refine ww ?_
     refine condBh h (fun c10 h => ?_) (fun c10 h => ?_)
     ·refine ww ?_
      obtain ⟨t11, ht11, h⟩ := bi h
      refine cN [] (F37_ok ht11) trivial ?_
      refine ww ?_
      obtain rfl := Option.some.inj h
      exact eM [some 0, some 1] rfl
     ·refine ww ?_
      obtain rfl := Option.some.inj h
      exact eM [some 0, some 1] rfl
   ·rintro _ rfl
    clear ho
    refine ww ?_
    rw [wrapN (by omega)]
    exact eL' (x1.Items.length - (o1_2 + 1)) [some 0, some 1] ⟨o1_2 + 1, o3.1, o3.2, ⟨by omega, rfl⟩, rfl, h⟩ (by omega)
  ·rw [countN (show ¬ ((o1_2 : Int) < (x1.Items.length : Int)) from c2), F15_l1] at h
   refine ww ?_
   obtain rfl := Option.some.inj h
   exact eM [some 0, some 1] rfl
 ·rintro _ rfl
  clear ho
  refine ww ?_
  obtain ⟨o13, ho, h⟩ := bi h
  refine cutS (fun s => s = ⟨[(7, .one (.c (.d (.sl (o1.1.map eS))))), (8, .one (.c (.d (.sl (o13.map eS))))), (9, .one (.c (.d (.sl (o1.2.map eS)))))], []⟩) ?_ ?_
  ·have h := ho
   clear ho
   obtain ⟨_, hk, h⟩ := bi h
   have hk := ck_some hk
   refine ww ?_
   refine bL (fun j s => ∃ (o13_1 : Nat) (o13_0 : (List ByteArray)), (o13_1 ≤ x0.Items.length ∧ j = x0.Items.length - o13_1) ∧ s = ⟨[(2, .one (.c (.pt 0 0))), (3, .one (.c (.pt 1 0))), (7, .one (.c (.d (.sl (o1.1.map eS))))), (8, .one (.c (.d (.sl (o13_0.map eS))))), (9, .one (.c (.d (.sl (o1.2.map eS))))), (13, .one (.c (.d (.v (.int .i64 ((o13_1 : Int)))))))], [some (.box [.d (.v (.string x0.Meta.Kind)), .d (.v (.string x0.Meta.Namespace)), .d (.v (.string x0.Meta.Name)), .d (.v (.int .i64 x0.Meta.Uid)), .d (.v (.int .i64 x0.Meta.Version)), .d (.v (.int .i64 x0.Meta.Generation)), .d (.v (.int .i64 x0.Meta.Created)), .d (.v (.bool x0.Meta.Deleting)), .d (.v (.int .i64 x0.Meta.DeleteAt)), .d (.sl (x0.Meta.Labels.map eLabel)), .d (.sl (x0.Meta.Owners.map eOwner)), .d (.sl (x0.Meta.Finalizers.map eS)), .d (.sl (x0.Meta.Managers.map eManager)), .d (.sl (x0.Ports.map eServicePort)), .d (.sl (x0.Items.map eEndpoint))]), some (.box [.d (.v (.string x1.Meta.Kind)), .d (.v (.string x1.Meta.Namespace)), .d (.v (.string x1.Meta.Name)), .d (.v (.int .i64 x1.Meta.Uid)), .d (.v (.int .i64 x1.Meta.Version)), .d (.v (.int .i64 x1.Meta.Generation)), .d (.v (.int .i64 x1.Meta.Created)), .d (.v (.bool x1.Meta.Deleting)), .d (.v (.int .i64 x1.Meta.DeleteAt)), .d (.sl (x1.Meta.Labels.map eLabel)), .d (.sl (x1.Meta.Owners.map eOwner)), .d (.sl (x1.Meta.Finalizers.map eS)), .d (.sl (x1.Meta.Managers.map eManager)), .d (.sl (x1.Ports.map eServicePort)), .d (.sl (x1.Items.map eEndpoint))])]⟩ ∧ F15_l13 x1 (x0.Items.drop o13_1) o13_1 o13_0 = some o13) (x0.Items.length - 0) [some 0, some 1] ⟨0, [], ⟨hk.1, rfl⟩, rfl, h⟩ ?_
   rintro _ _ ⟨o13_1, o13_0, ⟨hi, rfl⟩, rfl, h⟩
   refine ww ?_
   refine condS (fun c14 => ?_) (fun c14 => ?_)
   ·obtain ⟨xo13, hxo13, hd⟩ := countY (show (o13_1 : Int) < (x0.Items.length : Int) from c14)
    rw [hd, F15_l13] at h
    refine ww ?_
    obtain ⟨o15, ho, h⟩ := bi h
    refine cutS (fun s => s = ⟨[(2, .one (.c (.pt 0 0))), (3, .one (.c (.pt 1 0))), (7, .one (.c (.d (.sl (o1.1.map eS))))), (8, .one (.c (.d (.sl (o15.map eS))))), (9, .one (.c (.d (.sl (o1.2.map eS))))), (13, .one (.c (.d (.v (.int .i64 ((o13_1 : Int)))))))], [some (.box [.d (.v (.string x0.Meta.Kind)), .d (.v (.string x0.Meta.Namespace)), .d (.v (.string x0.Meta.Name)), .d (.v (.int .i64 x0.Meta.Uid)), .d (.v (.int .i64 x0.Meta.Version)), .d (.v (.int .i64 x0.Meta.Generation)), .d (.v (.int .i64 x0.Meta.Created)), .d (.v (.bool x0.Meta.Deleting)), .d (.v (.int .i64 x0.Meta.DeleteAt)), .d (.sl (x0.Meta.Labels.map eLabel)), .d (.sl (x0.Meta.Owners.map eOwner)), .d (.sl (x0.Meta.Finalizers.map eS)), .d (.sl (x0.Meta.Managers.map eManager)), .d (.sl (x0.Ports.map eServicePort)), .d (.sl (x0.Items.map eEndpoint))]), some (.box [.d (.v (.string x1.Meta.Kind)), .d (.v (.string x1.Meta.Namespace)), .d (.v (.string x1.Meta.Name)), .d (.v (.int .i64 x1.Meta.Uid)), .d (.v (.int .i64 x1.Meta.Version)), .d (.v (.int .i64 x1.Meta.Generation)), .d (.v (.int .i64 x1.Meta.Created)), .d (.v (.bool x1.Meta.Deleting)), .d (.v (.int .i64 x1.Meta.DeleteAt)), .d (.sl (x1.Meta.Labels.map eLabel)), .d (.sl (x1.Meta.Owners.map eOwner)), .d (.sl (x1.Meta.Finalizers.map eS)), .d (.sl (x1.Meta.Managers.map eManager)), .d (.sl (x1.Ports.map eServicePort)), .d (.sl (x1.Items.map eEndpoint))])]⟩) ?_ ?_
    ·have h := ho
     clear ho
     refine ww ?_
     refine t_idxF (enc := eEndpoint) (xs := x0.Items) rfl rfl hxo13 rfl ?_
     refine ww ?_
     obtain ⟨t16, ht16, h⟩ := bi h
     refine cN [] (F36_ok ht16) trivial ?_
     refine ww ?_
     refine condSh h (fun c17 h => ?_) (fun c17 h => ?_)
     ·refine ww ?_
      refine t_idxF (enc := eEndpoint) (xs := x0.Items) rfl rfl hxo13 rfl ?_
      refine ww ?_
      obtain ⟨t18, ht18, h⟩ := bi h
      refine cN [] (F37_ok ht18) trivial ?_
      refine ww ?_
      obtain rfl := Option.some.inj h
      exact eM [some 0, some 1] rfl
     ·refine ww ?_
      obtain rfl := Option.some.inj h
      exact eM [some 0, some 1] rfl
    ·rintro _ rfl
     clear ho
     refine ww ?_
     rw [wrapN (by omega)]
     exact eL' (x0.Items.length - (o13_1 + 1)) [some 0, some 1] ⟨o13_1 + 1, o15, ⟨by omega, rfl⟩, rfl, h⟩ (by omega)
   ·rw [countN (show ¬ ((o13_1 : Int) < (x0.Items.length : Int)) from c14), F15_l13] at h
    refine ww ?_
    obtain rfl := Option.some.inj h
    exact eM [] rfl
  ·rintro _ rfl
   clear ho
   refine ww ?_
   obtain rfl := Option.some.inj h
   exact eF []

/- orchestrator/orchestratorlaw55.EndpointsDiffs -/
def F4 (x0 : (List Endpoint)) (x1 : (List Endpoint)) : Option (Bool) := (((if 40 < (x0.length : Int) then some true else some (decide (40 < (x1.length : Int))))).bind fun o1 => (if o1 = true then (F9).bind fun t4 => some t4 else (F14 ((⟨(⟨(⟨#[]⟩ : ByteArray), (⟨#[]⟩ : ByteArray), (⟨#[]⟩ : ByteArray), 0, 0, 0, 0, false, 0, [], [], [], []⟩ : Meta), [], x0⟩ : EndpointSet)) ((⟨(⟨(⟨#[]⟩ : ByteArray), (⟨#[]⟩ : ByteArray), (⟨#[]⟩ : ByteArray), 0, 0, 0, 0, false, 0, [], [], [], []⟩ : Meta), [], x1⟩ : EndpointSet))).bind fun t5 => (F15 ((⟨(⟨(⟨#[]⟩ : ByteArray), (⟨#[]⟩ : ByteArray), (⟨#[]⟩ : ByteArray), 0, 0, 0, 0, false, 0, [], [], [], []⟩ : Meta), [], x0⟩ : EndpointSet)) ((⟨(⟨(⟨#[]⟩ : ByteArray), (⟨#[]⟩ : ByteArray), (⟨#[]⟩ : ByteArray), 0, 0, 0, 0, false, 0, [], [], [], []⟩ : Meta), [], x1⟩ : EndpointSet))).bind fun t6 => (F14 ((⟨(⟨(⟨#[]⟩ : ByteArray), (⟨#[]⟩ : ByteArray), (⟨#[]⟩ : ByteArray), 0, 0, 0, 0, false, 0, [], [], [], []⟩ : Meta), [], x1⟩ : EndpointSet)) ((⟨(⟨(⟨#[]⟩ : ByteArray), (⟨#[]⟩ : ByteArray), (⟨#[]⟩ : ByteArray), 0, 0, 0, 0, false, 0, [], [], [], []⟩ : Meta), [], x0⟩ : EndpointSet))).bind fun t7 => (F14 ((⟨(⟨(⟨#[]⟩ : ByteArray), (⟨#[]⟩ : ByteArray), (⟨#[]⟩ : ByteArray), 0, 0, 0, 0, false, 0, [], [], [], []⟩ : Meta), [], x0⟩ : EndpointSet)) ((⟨(⟨(⟨#[]⟩ : ByteArray), (⟨#[]⟩ : ByteArray), (⟨#[]⟩ : ByteArray), 0, 0, 0, 0, false, 0, [], [], [], []⟩ : Meta), [], x0⟩ : EndpointSet))).bind fun t8 => (((F16 t5.1 t6.1).bind fun t10 => (if t10 = true then (F16 t5.2.1 t6.2.1).bind fun t12 => (if t12 = true then (F16 t5.2.2 t6.2.2).bind fun t14 => (if t14 = true then (F16 t7.1 t5.2.1).bind fun t16 => (if t16 = true then (F16 t7.2.1 t5.1).bind fun t18 => (if t18 = true then (F16 t7.2.2 t5.2.2).bind fun t20 => (if t20 = true then (if (IntKind.i64.wrap (((IntKind.i64.wrap (((t8.1.length : Int)) + ((t8.2.1.length : Int))))) + ((t8.2.2.length : Int)))) = 0 then (F9).bind fun t23 => some t23 else some false) else some false) else some false) else some false) else some false) else some false) else some false)).bind fun o9 => some o9)))
def a4 : AFn := ⟨102, [(.tmp 4)],
 (.seq (.reg [sq 4 (.mv (kB false))])
 (.seq (.seq (.sem (.reg [sq 19 (.mv (.t 0)),
sq 20 (.len (.t 19)),
sq 21 (.bin .gtr (.t 20) (kI 40)),
sq 22 (.mv (.t 21)),
⟨(some 23), (some (22, false)), .mv (.t 1), [], (.new [])⟩,
⟨(some 24), (some (22, false)), .len (.t 23), [], (.new [])⟩,
⟨(some 25), (some (22, false)), .bin .gtr (.t 24) (kI 40), [], (.new [])⟩,
⟨(some 26), none, .pick (.t 22) (kB true) (.t 25), [], (.lone [19, 23])⟩]))
 (.cond (.t 26)
 (.seq (.reg [sq 27 (.call 9 []),
sq 4 (.mv (.t 27))])
 .ret)
 .skip))
 (.seq (.reg [sq 28 (.mv (.t 0)),
sq 29 (.build [.d (.v (.string ⟨#[]⟩)), .d (.v (.string ⟨#[]⟩)), .d (.v (.string ⟨#[]⟩)), .d (.v (.int .i64 0)), .d (.v (.int .i64 0)), .d (.v (.int .i64 0)), .d (.v (.int .i64 0)), .d (.v (.bool false)), .d (.v (.int .i64 0)), .d (.v (.slice none 0 0)), .d (.v (.slice none 0 0)), .d (.v (.slice none 0 0)), .d (.v (.slice none 0 0)), .d (.v (.slice none 0 0)), .d (.v (.slice none 0 0))] [(14, 1, (.t 28))]),
sq 30 (.mv (.t 1)),
sq 31 (.build [.d (.v (.string ⟨#[]⟩)), .d (.v (.string ⟨#[]⟩)), .d (.v (.string ⟨#[]⟩)), .d (.v (.int .i64 0)), .d (.v (.int .i64 0)), .d (.v (.int .i64 0)), .d (.v (.int .i64 0)), .d (.v (.bool false)), .d (.v (.int .i64 0)), .d (.v (.slice none 0 0)), .d (.v (.slice none 0 0)), .d (.v (.slice none 0 0)), .d (.v (.slice none 0 0)), .d (.v (.slice none 0 0)), .d (.v (.slice none 0 0))] [(14, 1, (.t 30))]),
sq 5 (.zbox [.d (.v (.string ⟨#[]⟩)), .d (.v (.string ⟨#[]⟩)), .d (.v (.string ⟨#[]⟩)), .d (.v (.int .i64 0)), .d (.v (.int .i64 0)), .d (.v (.int .i64 0)), .d (.v (.int .i64 0)), .d (.v (.bool false)), .d (.v (.int .i64 0)), .d (.v (.slice none 0 0)), .d (.v (.slice none 0 0)), .d (.v (.slice none 0 0)), .d (.v (.slice none 0 0)), .d (.v (.slice none 0 0)), .d (.v (.slice none 0 0))]),
sq 6 (.zbox [.d (.v (.string ⟨#[]⟩)), .d (.v (.string ⟨#[]⟩)), .d (.v (.string ⟨#[]⟩)), .d (.v (.int .i64 0)), .d (.v (.int .i64 0)), .d (.v (.int .i64 0)), .d (.v (.int .i64 0)), .d (.v (.bool false)), .d (.v (.int .i64 0)), .d (.v (.slice none 0 0)), .d (.v (.slice none 0 0)), .d (.v (.slice none 0 0)), .d (.v (.slice none 0 0)), .d (.v (.slice none 0 0)), .d (.v (.slice none 0 0))]),
su (.store 15 (.t 5) (.t 29)),
su (.store 15 (.t 6) (.t 31))])
 (.seq (.reg [sq 33 (.load (some 15) (.t 5)),
sq 34 (.load (some 15) (.t 6)),
sq 35 (.call 14 [(.t 33), (.t 34)]),
sq 32 (.mv (.t 35)),
sq 36 (.ext (.t 32) 0),
sq 37 (.ext (.t 32) 1),
sq 38 (.ext (.t 32) 2),
sq 7 (.mv (.t 36)),
sq 8 (.mv (.t 37)),
sq 9 (.mv (.t 38))])
 (.seq (.reg [sq 40 (.load (some 15) (.t 5)),
sq 41 (.load (some 15) (.t 6)),
sq 42 (.call 15 [(.t 40), (.t 41)]),
sq 39 (.mv (.t 42)),
sq 43 (.ext (.t 39) 0),
sq 44 (.ext (.t 39) 1),
sq 45 (.ext (.t 39) 2),
sq 10 (.mv (.t 43)),
sq 11 (.mv (.t 44)),
sq 12 (.mv (.t 45))])
 (.seq (.reg [sq 47 (.load (some 15) (.t 6)),
sq 48 (.load (some 15) (.t 5)),
sq 49 (.call 14 [(.t 47), (.t 48)]),
sq 46 (.mv (.t 49)),
sq 50 (.ext (.t 46) 0),
sq 51 (.ext (.t 46) 1),
sq 52 (.ext (.t 46) 2),
sq 13 (.mv (.t 50)),
sq 14 (.mv (.t 51)),
sq 15 (.mv (.t 52))])
 (.seq (.reg [sq 54 (.load (some 15) (.t 5)),
sq 55 (.load (some 15) (.t 5)),
sq 56 (.call 14 [(.t 54), (.t 55)]),
sq 53 (.mv (.t 56)),
sq 57 (.ext (.t 53) 0),
sq 58 (.ext (.t 53) 1),
sq 59 (.ext (.t 53) 2),
sq 16 (.mv (.t 57)),
sq 17 (.mv (.t 58)),
sq 18 (.mv (.t 59))])
 (.seq (.sem (.reg [sq 60 (.mv (.t 7)),
sq 61 (.mv (.t 10)),
sq 62 (.call 16 [(.t 60), (.t 61)]),
sq 63 (.mv (.t 62)),
⟨(some 64), (some (63, true)), .mv (.t 8), [], (.new [])⟩,
⟨(some 65), (some (63, true)), .mv (.t 11), [], (.new [])⟩,
⟨(some 66), (some (63, true)), .call 16 [(.t 64), (.t 65)], [], (.new [])⟩,
sq 67 (.pick (.t 63) (.t 66) (kB false)),
sq 68 (.mv (.t 67)),
⟨(some 69), (some (68, true)), .mv (.t 9), [], (.new [])⟩,
⟨(some 70), (some (68, true)), .mv (.t 12), [], (.new [])⟩,
⟨(some 71), (some (68, true)), .call 16 [(.t 69), (.t 70)], [], (.new [])⟩,
sq 72 (.pick (.t 68) (.t 71) (kB false)),
sq 73 (.mv (.t 72)),
⟨(some 74), (some (73, true)), .mv (.t 13), [], (.new [])⟩,
⟨(some 75), (some (73, true)), .mv (.t 8), [], (.new [])⟩,
⟨(some 76), (some (73, true)), .call 16 [(.t 74), (.t 75)], [], (.new [])⟩,
sq 77 (.pick (.t 73) (.t 76) (kB false)),
sq 78 (.mv (.t 77)),
⟨(some 79), (some (78, true)), .mv (.t 14), [], (.new [])⟩,
⟨(some 80), (some (78, true)), .mv (.t 7), [], (.new [])⟩,
⟨(some 81), (some (78, true)), .call 16 [(.t 79), (.t 80)], [], (.new [])⟩,
sq 82 (.pick (.t 78) (.t 81) (kB false)),
sq 83 (.mv (.t 82)),
⟨(some 84), (some (83, true)), .mv (.t 15), [], (.new [])⟩,
⟨(some 85), (some (83, true)), .mv (.t 9), [], (.new [])⟩,
⟨(some 86), (some (83, true)), .call 16 [(.t 84), (.t 85)], [], (.new [])⟩,
sq 87 (.pick (.t 83) (.t 86) (kB false)),
sq 88 (.mv (.t 87)),
⟨(some 89), (some (88, true)), .mv (.t 16), [], (.new [])⟩,
⟨(some 90), (some (88, true)), .len (.t 89), [], (.new [])⟩,
⟨(some 91), (some (88, true)), .mv (.t 17), [], (.new [])⟩,
⟨(some 92), (some (88, true)), .len (.t 91), [], (.new [])⟩,
⟨(some 93), (some (88, true)), .bin .add (.t 90) (.t 92), [], (.new [])⟩,
⟨(some 94), (some (88, true)), .mv (.t 18), [], (.new [])⟩,
⟨(some 95), (some (88, true)), .len (.t 94), [], (.new [])⟩,
⟨(some 96), (some (88, true)), .bin .add (.t 93) (.t 95), [], (.new [])⟩,
⟨(some 97), (some (88, true)), .bin .eql (.t 96) (kI 0), [], (.new [])⟩,
sq 98 (.pick (.t 88) (.t 97) (kB false)),
sq 99 (.mv (.t 98)),
⟨(some 100), (some (99, true)), .call 9 [], [], (.new [])⟩,
sq 101 (.pick (.t 99) (.t 100) (kB false)),
sq 4 (.mv (.t 101))]))
 .ret))))))))⟩
theorem a4_ok : afn Try.prog 4 = some a4.er := by kernel_rfl
theorem F4_ok {x0 : (List Endpoint)} {x1 : (List Endpoint)} {r : Bool} (h : F4 x0 x1 = some r) : CallD Try.prog 4 [.c (.d (.sl (x0.map eEndpoint))), .c (.d (.sl (x1.map eEndpoint)))] [] (tupV [.c (.d (.v (.bool r)))]) [] := by
 refine callS a4_ok (by simp [a4]) ?_
 rw [F4] at h
 simp only [a4, VW.down, Nat.reduceEqDiff, reduceCtorEq, Nat.reduceAdd, Nat.reduceLeDiff, Nat.reduceLT, Nat.reduceBEq, Nat.reduceSub, EE.down]
 obtain ⟨o1, ho, h⟩ := bi h
 refine cutS (fun s => s = ⟨[(0, .one (.c (.d (.sl (x0.map eEndpoint))))), (1, .one (.c (.d (.sl (x1.map eEndpoint))))), (26, .one (.c (.d (.v (.bool o1)))))], []⟩) ?_ ?_
 ·have h := ho
  clear ho
  refine ww ?_
  refine guardSh h (fun g2 h => ?_) (fun g2 h => ?_)
  ·refine ww ?_
   obtain rfl := Option.some.inj h
   exact eM [] rfl
  ·refine ww ?_
   obtain rfl := Option.some.inj h
   exact eM [] rfl
 ·rintro _ rfl
  clear ho
  refine ww ?_
  refine condBh h (fun c3 h => ?_) (fun c3 h => ?_)
  ·refine ww ?_
   obtain ⟨t4, ht4, h⟩ := bi h
   refine cN [] (F9_ok ht4) trivial ?_
   refine ww ?_
   obtain rfl := Option.some.inj h
   exact eF []
  ·refine ww ?_
   obtain ⟨t5, ht5, h⟩ := bi h
   refine cN [] (F14_ok ht5) trivial ?_
   refine ww ?_
   obtain ⟨t6, ht6, h⟩ := bi h
   refine cN [] (F15_ok ht6) trivial ?_
   refine ww ?_
   obtain ⟨t7, ht7, h⟩ := bi h
   refine cN [] (F14_ok ht7) trivial ?_
   refine ww ?_
   obtain ⟨t8, ht8, h⟩ := bi h
   refine cN [] (F14_ok ht8) trivial ?_
   refine ww ?_
   obtain ⟨o9, ho, h⟩ := bi h
   refine cutS (fun s => s = ⟨[(4, .one (.c (.d (.v (.bool o9)))))], []⟩) ?_ ?_
   ·have h := ho
    clear ho
    refine ww ?_
    obtain ⟨t10, ht10, h⟩ := bi h
    refine callX_bor (F16_ok ht10) (by simp only [borAs, bors, hp, List.getElem?_cons_zero, List.getElem?_cons_succ, Option.join_some, List.drop_zero, bor_full', true_and, Nat.zero_add, List.length_map, Nat.le_refl, nrm, List.length_cons, List.length_nil, Nat.reduceAdd, Nat.reduceLeDiff, List.take_succ_cons, List.take_zero, List.take_nil, List.map_cons, List.map_nil, List.length_set, EE.down]) rfl ?_
    refine ww ?_
    refine guardSBh h (fun g11 h => ?_) (fun g11 h => ?_)
    ·refine ww ?_
     obtain ⟨t12, ht12, h⟩ := bi h
     refine callX_bor (F16_ok ht12) (by simp only [borAs, bors, hp, List.getElem?_cons_zero, List.getElem?_cons_succ, Option.join_some, List.drop_zero, bor_full', true_and, Nat.zero_add, List.length_map, Nat.le_refl, nrm, List.length_cons, List.length_nil, Nat.reduceAdd, Nat.reduceLeDiff, List.take_succ_cons, List.take_zero, List.take_nil, List.map_cons, List.map_nil, List.length_set, EE.down]) rfl ?_
     refine ww ?_
     refine guardSBh h (fun g13 h => ?_) (fun g13 h => ?_)
     ·refine ww ?_
      obtain ⟨t14, ht14, h⟩ := bi h
      refine callX_bor (F16_ok ht14) (by simp only [borAs, bors, hp, List.getElem?_cons_zero, List.getElem?_cons_succ, Option.join_some, List.drop_zero, bor_full', true_and, Nat.zero_add, List.length_map, Nat.le_refl, nrm, List.length_cons, List.length_nil, Nat.reduceAdd, Nat.reduceLeDiff, List.take_succ_cons, List.take_zero, List.take_nil, List.map_cons, List.map_nil, List.length_set, EE.down]) rfl ?_
      refine ww ?_
      refine guardSBh h (fun g15 h => ?_) (fun g15 h => ?_)
      ·refine ww ?_
       obtain ⟨t16, ht16, h⟩ := bi h
       refine callX_bor (F16_ok ht16) (by simp only [borAs, bors, hp, List.getElem?_cons_zero, List.getElem?_cons_succ, Option.join_some, List.drop_zero, bor_full', true_and, Nat.zero_add, List.length_map, Nat.le_refl, nrm, List.length_cons, List.length_nil, Nat.reduceAdd, Nat.reduceLeDiff, List.take_succ_cons, List.take_zero, List.take_nil, List.map_cons, List.map_nil, List.length_set, EE.down]) rfl ?_
       refine ww ?_
       refine guardSBh h (fun g17 h => ?_) (fun g17 h => ?_)
       ·refine ww ?_
        obtain ⟨t18, ht18, h⟩ := bi h
        refine callX_bor (F16_ok ht18) (by simp only [borAs, bors, hp, List.getElem?_cons_zero, List.getElem?_cons_succ, Option.join_some, List.drop_zero, bor_full', true_and, Nat.zero_add, List.length_map, Nat.le_refl, nrm, List.length_cons, List.length_nil, Nat.reduceAdd, Nat.reduceLeDiff, List.take_succ_cons, List.take_zero, List.take_nil, List.map_cons, List.map_nil, List.length_set, EE.down]) rfl ?_
        refine ww ?_
        refine guardSBh h (fun g19 h => ?_) (fun g19 h => ?_)
        ·refine ww ?_
         obtain ⟨t20, ht20, h⟩ := bi h
         refine callX_bor (F16_ok ht20) (by simp only [borAs, bors, hp, List.getElem?_cons_zero, List.getElem?_cons_succ, Option.join_some, List.drop_zero, bor_full', true_and, Nat.zero_add, List.length_map, Nat.le_refl, nrm, List.length_cons, List.length_nil, Nat.reduceAdd, Nat.reduceLeDiff, List.take_succ_cons, List.take_zero, List.take_nil, List.map_cons, List.map_nil, List.length_set, EE.down]) rfl ?_
         refine ww ?_
         refine guardSBh h (fun g21 h => ?_) (fun g21 h => ?_)
         ·refine ww ?_
          refine guardSh h (fun g22 h => ?_) (fun g22 h => ?_)
          ·refine ww ?_
           obtain ⟨t23, ht23, h⟩ := bi h
           refine cN [] (F9_ok ht23) trivial ?_
           refine ww ?_
           obtain rfl := Option.some.inj h
           exact eM [] rfl
          ·refine ww ?_
           obtain rfl := Option.some.inj h
           exact eM [] rfl
         ·refine ww ?_
          obtain rfl := Option.some.inj h
          exact eM [] rfl
        ·refine ww ?_
         obtain rfl := Option.some.inj h
         exact eM [] rfl
       ·refine ww ?_
        obtain rfl := Option.some.inj h
        exact eM [] rfl
      ·refine ww ?_
       obtain rfl := Option.some.inj h
       exact eM [] rfl
     ·refine ww ?_
      obtain rfl := Option.some.inj h
      exact eM [] rfl
    ·refine ww ?_
     obtain rfl := Option.some.inj h
     exact eM [] rfl
   ·rintro _ rfl
    clear ho
    refine ww ?_
    obtain rfl := Option.some.inj h
    exact eF []

end Go.Proofs.Ytfkkccgopmcnaaa
