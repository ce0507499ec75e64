/- The plain laws, part 3. -/
import Derived.Test.YtihhlgbcbmoblaaBQ2
set_option linter.unusedVariables false
set_option linter.unusedSimpArgs false
namespace Go.Proofs.Ytihhlgbcbmoblaa
open Go Go.Fw
set_option maxRecDepth 100000

theorem F31_l1_spec (x : Taint) : ∀ (l : List Taint) (i : Nat), F31_l1 x l i = some (if hs l x = true then .inl true else .inr ())
  | [], i => rfl
  | y :: l, i => by
    rw [F31_l1]
    have e : (if y.Key = x.Key then (if y.Value = x.Value then some (decide (y.Effect = x.Effect)) else some false) else some false) = some (sm x y) := by
      rw [sm_comm]; have := F55_eq y x; unfold F55 at this
      rw [Option.bind_eq_some_iff] at this
      obtain ⟨b, h1, h2⟩ := this
      rw [h1, h2]
    rw [e]
    simp only [Option.bind_some]
    cases h : sm x y with
    | true => rw [if_pos rfl]; simp [hs, h]
    | false => rw [if_neg (by simp), F31_l1_spec x l (i + 1)]; simp [hs, h]
theorem F31_spec (l : List Taint) (x : Taint) (hb : l.length ≤ 2000000) : F31 l x = some (hs l x) := by
  unfold F31
  rw [ck_t ⟨Nat.zero_le _, by omega⟩, Option.bind_some, F31_l1_spec]
  cases hs l x <;> rfl

theorem F29_spec (s m d : Bool) (t : Int) : F29 s m d t = some (wnt s m d t) := by
  unfold F29 wnt kN kM kD kE
  cases s <;> cases m <;> cases d <;> simp [apI]
theorem F30_spec (x : Taint) : F30 x = some (mg x) := by
  unfold F30
  rw [F29_spec, Option.bind_some, F31_spec _ _ (by decide)]
  have : hs (wnt true true true 0) x = mg x := by unfold mg; rfl
  rw [this]; rfl
end Go.Proofs.Ytihhlgbcbmoblaa
