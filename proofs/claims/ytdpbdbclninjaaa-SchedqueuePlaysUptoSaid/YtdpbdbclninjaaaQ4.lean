/- The plain laws, part 4. -/
import Derived.Test.YtdpbdbclninjaaaQ3
set_option linter.unusedVariables false
set_option linter.unusedSimpArgs false
namespace Go.Proofs.Ytdpbdbclninjaaa
open Go Go.Fw
set_option maxRecDepth 100000

/-! Fair. -/
def srtL (l : List W) : List W := l.foldl (fun acc x => insW leP x acc) []
theorem srtL_snoc (l : List W) (x : W) : srtL (l ++ [x]) = insW leP x (srtL l) := by simp [srtL, List.foldl_append]
theorem fold_mem (z : W) : ∀ (b l : List W), z ∈ b.foldl (fun acc x => insW leP x acc) l ↔ z ∈ b ∨ z ∈ l
  | [], l => by simp
  | x :: b, l => by rw [List.foldl_cons, fold_mem z b, insW_mem, List.mem_cons]; exact ⟨fun h => h.elim (fun h => .inl (.inr h)) fun h => h.elim (fun h => .inl (.inl h)) .inr, fun h => h.elim (fun h => h.elim (fun h => .inr (.inl h)) .inl) fun h => .inr (.inr h)⟩
theorem srtL_mem (z : W) (l : List W) : z ∈ srtL l ↔ z ∈ l := by unfold srtL; rw [fold_mem]; simp
def Desc : List W → Prop
  | [] => True
  | y :: l => (∀ z ∈ l, z.At ≤ y.At) ∧ Desc l
theorem insW_head {x : W} : ∀ {l : List W}, (∀ z ∈ l, z.At < x.At) → insW leP x l = x :: l
  | [], _ => rfl
  | y :: l, h => by
    have := h y (List.mem_cons_self ..)
    rw [insW, if_neg]
    unfold leP; simp; omega
theorem desc_insW (x : W) : ∀ {l : List W}, Desc l → Desc (insW leP x l)
  | [], _ => by simp [insW, Desc]
  | y :: l, h => by
    unfold insW
    by_cases hc : leP y x = true
    · rw [if_pos hc]
      unfold leP at hc
      simp only [decide_eq_true_eq] at hc
      refine ⟨fun z hz => ?_, desc_insW x h.2⟩
      rw [insW_mem] at hz
      rcases hz with rfl | hz
      · exact hc
      · exact h.1 z hz
    · rw [if_neg hc]
      unfold leP at hc
      simp only [decide_eq_true_eq] at hc
      refine ⟨fun z hz => ?_, h⟩
      rcases List.mem_cons.1 hz with rfl | hz
      · omega
      · have := h.1 z hz; omega
theorem flt_insW {k : ByteArray} {x : W} (hx : x.Key ≠ k) : ∀ {l : List W}, Desc l → flt k (insW leP x l) = insW leP x (flt k l)
  | [], _ => by simp [insW, flt, hx]
  | y :: l, h => by
    have ih := flt_insW hx h.2
    unfold flt at ih ⊢
    rw [insW]
    by_cases hc : leP y x = true
    · rw [if_pos hc]
      by_cases hy : y.Key = k
      · rw [List.filter_cons_of_neg (by simpa using hy), List.filter_cons_of_neg (by simpa using hy), ih]
      · rw [List.filter_cons_of_pos (by simpa using hy), List.filter_cons_of_pos (by simpa using hy), insW, if_pos hc, ih]
    · rw [if_neg hc, List.filter_cons_of_pos (by simpa using hx)]
      symm
      refine insW_head fun z hz => ?_
      have hz' := (List.mem_filter.1 hz).1
      unfold leP at hc
      simp only [decide_eq_true_eq] at hc
      rcases List.mem_cons.1 hz' with rfl | hz'
      · omega
      · have := h.1 z hz'; omega
theorem flt_insW_self {k : ByteArray} {x : W} (hx : x.Key = k) : ∀ l : List W, flt k (insW leP x l) = flt k l
  | [] => by simp [insW, flt, hx]
  | y :: l => by
    have ih := flt_insW_self hx l
    unfold flt at ih ⊢
    rw [insW]
    by_cases hc : leP y x = true
    · rw [if_pos hc]
      by_cases hy : y.Key = k
      · rw [List.filter_cons_of_neg (by simpa using hy), List.filter_cons_of_neg (by simpa using hy), ih]
      · rw [List.filter_cons_of_pos (by simpa using hy), List.filter_cons_of_pos (by simpa using hy), ih]
    · rw [if_neg hc, List.filter_cons_of_neg (by simpa using hx)]
theorem desc_fold : ∀ (b l : List W), Desc l → Desc (b.foldl (fun acc x => insW leP x acc) l)
  | [], _, h => h
  | x :: b, l, h => desc_fold b _ (desc_insW x h)
theorem flt_fold (k : ByteArray) : ∀ (b l : List W), Desc l → flt k (b.foldl (fun acc x => insW leP x acc) l) = (flt k b).foldl (fun acc x => insW leP x acc) (flt k l)
  | [], _, _ => rfl
  | x :: b, l, h => by
    rw [List.foldl_cons, flt_fold k b _ (desc_insW x h)]
    by_cases hx : x.Key = k
    · have e : flt k (x :: b) = flt k b := List.filter_cons_of_neg (by simpa using hx)
      rw [e, flt_insW_self hx]
    · have e : flt k (x :: b) = x :: flt k b := List.filter_cons_of_pos (by simpa using hx)
      rw [e, flt_insW hx h]; rfl
theorem flt_srtL (k : ByteArray) (l : List W) : flt k (srtL l) = srtL (flt k l) := flt_fold k l [] trivial
theorem fold_cons {y : W} : ∀ (b l : List W), (∀ x ∈ b, x.At ≤ y.At) → b.foldl (fun acc x => insW leP x acc) (y :: l) = y :: b.foldl (fun acc x => insW leP x acc) l
  | [], _, _ => rfl
  | x :: b, l, h => by
    have hx := h x (List.mem_cons_self ..)
    rw [List.foldl_cons, insW, if_pos (by unfold leP; simpa using hx), fold_cons b _ fun z hz => h z (List.mem_cons_of_mem _ hz)]; rfl
theorem srtL_first {a b : List W} {y : W} (ha : ∀ z ∈ a, z.At < y.At) (hb : ∀ z ∈ b, z.At ≤ y.At) : srtL (a ++ y :: b) = y :: srtL (a ++ b) := by
  unfold srtL
  rw [List.foldl_append, List.foldl_cons, List.foldl_append]
  have : insW leP y (a.foldl (fun acc x => insW leP x acc) []) = y :: a.foldl (fun acc x => insW leP x acc) [] := insW_head fun z hz => ha z (by rw [fold_mem] at hz; simpa using hz)
  rw [this, fold_cons b _ hb]

theorem F16_l1_spec (m : Nat) : ∀ (l : List W) (i : Nat) (out : List W), out.length + l.length ≤ 1000000 → F16_l1 (m : Int) l i out = some (out ++ if i ≤ m then l.eraseIdx (m - i) else l)
  | [], i, out, _ => by simp [F16_l1]
  | y :: l, i, out, h => by
    simp only [List.length_cons] at h
    rw [F16_l1]
    by_cases hm : i = m
    · rw [if_neg (by omega)]
      simp only [Option.bind_some]
      rw [F16_l1_spec m l (i + 1) out (by omega), if_neg (by omega), if_pos (by omega)]
      have : m - i = 0 := by omega
      rw [this]; rfl
    · rw [if_pos (by omega), apI_t (by simp only [List.length_cons, List.length_nil]; omega)]
      simp only [Option.bind_some]
      rw [F16_l1_spec m l (i + 1) _ (by simp only [List.length_append, List.length_cons, List.length_nil]; omega)]
      by_cases h1 : i ≤ m
      · have : m - i = m - (i + 1) + 1 := by omega
        rw [if_pos h1, if_pos (by omega), this, List.eraseIdx_cons_succ]; simp
      · rw [if_neg h1, if_neg (by omega)]; simp
theorem F16_spec (l : List W) (m : Nat) (h : l.length ≤ 1000000) : F16 l (m : Int) = some (l.eraseIdx m) := by
  unfold F16
  rw [ck_t ⟨Nat.zero_le _, by omega⟩, Option.bind_some, F16_l1_spec m l 0 [] (by simp; omega)]
  simp
theorem erase_fi (k : ByteArray) : ∀ {l : List W}, ct k l ≤ 1 → l.eraseIdx (fi k l) = flt k l
  | [], _ => rfl
  | y :: l, h => by
    rw [ct] at h
    unfold fi flt
    by_cases hy : y.Key = k
    · rw [if_pos hy] at h
      rw [if_pos hy, List.filter_cons_of_neg (by simpa using hy)]
      exact (flt_of_ct (k := k) (l := l) (by omega)).symm
    · rw [if_neg hy] at h
      rw [if_neg hy, List.filter_cons_of_pos (by simpa using hy), List.eraseIdx_cons_succ, erase_fi k (by omega)]; rfl
theorem fi_lt_of_ct {k : ByteArray} : ∀ {l : List W}, ct k l ≠ 0 → fi k l < l.length := fun {l} h => by
  by_cases h1 : fi k l < l.length
  · exact h1
  · exfalso
    have h2 := ct_flt_len k l
    have h3 := flt_none (fi_none k h1)
    rw [h3] at h2; omega

theorem F5_l11_spec (o : List W) (a : Act) (ho : ct a.Key o ≤ 1) : ∀ n i c, o.length = i + n → ct a.Key (o.drop i) ≤ 1 → F5_l11 o a (o.drop i) i c = some (if ct a.Key (o.drop i) = 0 then c else ((i + fi a.Key (o.drop i) : Nat) : Int))
  | 0, i, c, h, _ => by rw [List.drop_of_length_le (by omega)]; rfl
  | n + 1, i, c, h, hc => by
    have hi : i < o.length := by omega
    rw [List.drop_eq_getElem_cons hi] at hc ⊢
    rw [ct] at hc
    rw [F5_l11, rdI_at hi]
    simp only [Option.bind_some, ite_some]
    rw [F5_l11_spec o a ho n (i + 1) _ (by omega) (by omega), ct, fi]
    by_cases hk : o[i].Key = a.Key
    · rw [if_pos hk] at hc ⊢
      rw [if_pos (by omega), if_neg (by rw [if_pos hk]; omega), if_pos hk]; rfl
    · rw [if_neg hk] at hc ⊢
      rw [if_neg hk, if_neg hk]
      by_cases h0 : ct a.Key (o.drop (i + 1)) = 0
      · rw [if_pos h0, if_pos (by omega)]
      · rw [if_neg h0, if_neg (by omega)]; congr 2; omega

structure FI (q : Q) (o : List W) (n : Nat) : Prop where
  inv : Inv q n
  act : q.Active = srtL o
  one : ∀ k, ct k o ≤ 1
  len : o.length ≤ n
theorem F5_l7_spec : ∀ (l : List Act) (i : Nat) (q : Q) (o : List W) (n : Nat), n + l.length ≤ 900 → FI q o n → ∃ q' o', F5_l7 l i q o = some (q', o') ∧ FI q' o' (n + l.length)
  | [], i, q, o, n, _, h => ⟨q, o, rfl, h⟩
  | a :: l, i, q, o, n, hn, h => by
    simp only [List.length_cons] at hn ⊢
    obtain ⟨hi, hact, hone, hlen⟩ := h
    have hsm := hi.sm (by omega)
    have hadd := inv_add hi a.Key a.Priority (m := n + 1) (by omega) (by omega)
    have hfi := F5_l11_spec o a (hone a.Key) o.length 0 (-1) (by omega) (by rw [List.drop_zero]; exact hone a.Key)
    rw [List.drop_zero, Nat.zero_add] at hfi
    have hcy := (add_rest a.Key a.Priority q).2.2
    have step : F5_l7 (a :: l) i q o = (((if 0 ≤ (if ct a.Key o = 0 then (-1 : Int) else ((fi a.Key o : Nat) : Int)) then (rdI o (if ct a.Key o = 0 then (-1 : Int) else ((fi a.Key o : Nat) : Int))).bind fun y19 => some (decide (y19.At = a.Priority)) else some false).bind fun o17 => if o17 = true then some (addQ a.Key a.Priority q, o) else
        ((if 0 ≤ (if ct a.Key o = 0 then (-1 : Int) else ((fi a.Key o : Nat) : Int)) then (F16 o (if ct a.Key o = 0 then (-1 : Int) else ((fi a.Key o : Nat) : Int))).bind fun t23 => some t23 else some o).bind fun o21 => (apI o21 [(⟨a.Key, a.Priority⟩ : WorkItem)]).bind fun a24 => some (addQ a.Key a.Priority q, a24))).bind fun o9 => F5_l7 l (i + 1) o9.1 o9.2) := by
      have e : (⟨q.Waiting, q.Active, q.Stuck, q.Backoff, q.Retries, q.Cycle⟩ : SchedQueue) = q := rfl
      have e2 : (⟨(tup (addQ a.Key a.Priority q)).1, (tup (addQ a.Key a.Priority q)).2.1, (tup (addQ a.Key a.Priority q)).2.2.1, (tup (addQ a.Key a.Priority q)).2.2.2.1, (tup (addQ a.Key a.Priority q)).2.2.2.2, q.Cycle⟩ : SchedQueue) = addQ a.Key a.Priority q := by rw [← hcy]; rfl
      rw [F5_l7, e, F15_spec _ _ hsm, Option.bind_some, ck_t ⟨Nat.zero_le _, by omega⟩, Option.bind_some, hfi, Option.bind_some, e2]
    rw [step]
    have hmem : ∀ x, x ∈ q.Active ↔ x ∈ o := fun x => by rw [hact, srtL_mem]
    have hnew : ∀ o2 : List W, o2 = flt a.Key o ++ [⟨a.Key, a.Priority⟩] → (⟨a.Key, a.Priority⟩ : W) ∉ o → FI (addQ a.Key a.Priority q) o2 (n + 1) := by
      rintro o2 rfl hno
      refine ⟨hadd, ?_, fun k => ?_, ?_⟩
      · rw [srtL_snoc, addQ, if_neg (fun hm => hno ((hmem _).1 hm))]
        show insW leP _ (flt a.Key q.Active) = _
        rw [hact, flt_srtL]
      · rw [ct_append]
        simp only [ct]
        by_cases hk : a.Key = k
        · rw [if_pos hk, ← hk, ct_flt_self]; omega
        · rw [if_neg hk, ct_flt_ne (fun e => hk e.symm)]; have := hone k; omega
      · have := flt_len a.Key o; simp only [List.length_append, List.length_cons, List.length_nil]; omega
    have fin : ∀ o2, FI (addQ a.Key a.Priority q) o2 (n + 1) → ∃ q' o', F5_l7 l (i + 1) (addQ a.Key a.Priority q) o2 = some (q', o') ∧ FI q' o' (n + (l.length + 1)) := fun o2 h2 => by
      obtain ⟨q', o', g1, g2⟩ := F5_l7_spec l (i + 1) _ o2 (n + 1) (by omega) h2
      exact ⟨q', o', g1, by rw [show n + (l.length + 1) = n + 1 + l.length from by omega]; exact g2⟩
    by_cases h0 : ct a.Key o = 0
    · rw [if_pos h0, if_neg (by omega)]
      simp only [Option.bind_some, Bool.false_eq_true, if_false]
      rw [if_neg (by omega)]
      simp only [Option.bind_some]
      rw [apI_t (by simp only [List.length_cons, List.length_nil]; omega)]
      simp only [Option.bind_some]
      refine fin _ (hnew _ (by rw [flt_of_ct h0]) fun hm => ?_)
      exact ct_zero h0 _ hm rfl
    · have hf := fi_lt_of_ct h0
      obtain ⟨y, hy1, hy2⟩ := fi_at a.Key hf
      rw [if_neg h0, if_pos (by omega), rdI_nat, hy1]
      simp only [Option.bind_some, decide_eq_true_eq]
      by_cases hp : y.At = a.Priority
      · rw [if_pos hp]
        have hin : (⟨a.Key, a.Priority⟩ : W) ∈ o := by
          have : y = ⟨a.Key, a.Priority⟩ := by cases y; simp_all
          rw [← this]; exact List.mem_of_getElem? hy1
        refine fin o ⟨hadd, ?_, hone, by omega⟩
        rw [addQ, if_pos ((hmem _).2 hin), hact]
      · rw [if_neg hp, if_pos (by omega), F16_spec _ _ (by omega)]
        simp only [Option.bind_some]
        rw [erase_fi _ (hone _), apI_t (by have := flt_len a.Key o; simp only [List.length_cons, List.length_nil]; omega)]
        simp only [Option.bind_some]
        refine fin _ (hnew _ rfl fun hm => ?_)
        -- the one item with this key has another priority
        obtain ⟨j, hj, e⟩ := List.mem_iff_getElem.1 hm
        have h1 : ct a.Key (o.eraseIdx (fi a.Key o)) = 0 := by rw [erase_fi _ (hone _), ct_flt_self]
        have hne : j ≠ fi a.Key o := fun e2 => by
          subst e2
          rw [List.getElem?_eq_getElem hj, e] at hy1
          cases hy1; exact hp rfl
        have hm2 : (⟨a.Key, a.Priority⟩ : W) ∈ o.eraseIdx (fi a.Key o) := by
          rw [List.mem_eraseIdx_iff_getElem]
          exact ⟨j, hj, hne, e⟩
        exact ct_zero h1 _ hm2 rfl

theorem F5_l28_spec (o : List W) : ∀ n i (b : Nat) (y : W), o.length = i + n → b < i → o[b]? = some y → (∀ j z, j < i → o[j]? = some z → z.At ≤ y.At ∧ (j < b → z.At < y.At)) →
    ∃ (b' : Nat) (y' : W), F5_l28 o (o.drop i) i (b : Int) = some (b' : Int) ∧ o[b']? = some y' ∧ ∀ j z, o[j]? = some z → z.At ≤ y'.At ∧ (j < b' → z.At < y'.At)
  | 0, i, b, y, h, _, hy, hb => by
    rw [List.drop_of_length_le (by omega)]
    exact ⟨b, y, rfl, hy, fun j z hz => hb j z (by have := (List.getElem?_eq_some_iff.1 hz).1; omega) hz⟩
  | n + 1, i, b, y, h, hbi, hy, hb => by
    have hi : i < o.length := by omega
    have hli : o[i]? = some o[i] := List.getElem?_eq_getElem hi
    rw [List.drop_eq_getElem_cons hi, F5_l28, rdI_at hi, rdI_nat, hy]
    simp only [Option.bind_some, ite_some]
    by_cases hc : y.At < o[i].At
    · rw [if_pos hc]
      refine F5_l28_spec o n (i + 1) i o[i] (by omega) (by omega) hli fun j z hj hz => ?_
      by_cases he : j = i
      · subst he; rw [hli] at hz; cases hz; exact ⟨Int.le_refl _, fun h => by omega⟩
      · have := hb j z (by omega) hz; exact ⟨by omega, fun _ => by omega⟩
    · rw [if_neg hc]
      refine F5_l28_spec o n (i + 1) b y (by omega) (by omega) hy fun j z hj hz => ?_
      by_cases he : j = i
      · subst he; rw [hli] at hz; cases hz; exact ⟨by omega, fun h => by omega⟩
      · exact hb j z (by omega) hz
theorem F5_l28_first (y : W) (o : List W) : ∃ (b' : Nat) (y' : W), F5_l28 (y :: o) (y :: o) 0 0 = some (b' : Int) ∧ (y :: o)[b']? = some y' ∧ ∀ j z, (y :: o)[j]? = some z → z.At ≤ y'.At ∧ (j < b' → z.At < y'.At) := by
  obtain ⟨b', y', h1, h2, h3⟩ := F5_l28_spec (y :: o) o.length 1 0 y (by simp; omega) (by omega) rfl (fun j z hj hz => by
    have : j = 0 := by omega
    subst this; cases hz; exact ⟨Int.le_refl _, fun h => by omega⟩)
  refine ⟨b', y', ?_, h2, h3⟩
  rw [F5_l28]
  have e0 : rdI (y :: o) ((0 : Nat) : Int) = some y := rfl
  have e1 : rdI (y :: o) 0 = some y := rfl
  rw [e0, e1]
  simp only [Option.bind_some, ite_some]
  rw [if_neg (by omega)]
  exact h1

theorem F5_l26_spec : ∀ (k : Nat) (q : Q) (o : List W) (n : Nat), n + o.length ≤ 900 → o.length < k → FI q o n → ∃ q', F5_l26 k q o = some (.inr q') ∧ FI q' [] (n + o.length)
  | 0, _, _, _, _, h, _ => by omega
  | k + 1, q, [], n, hn, hk, h => by
    rw [F5_l26, if_neg (by simp)]
    exact ⟨q, rfl, h⟩
  | k + 1, q, y :: o, n, hn, hk, h => by
    obtain ⟨b, x, h1, h2, h3⟩ := F5_l28_first y o
    obtain ⟨hi, hact, hone, hlen⟩ := h
    have hsm := hi.sm (by omega)
    have hbl := (List.getElem?_eq_some_iff.1 h2).1
    have hsp : (y :: o) = (y :: o).take b ++ x :: (y :: o).drop (b + 1) := by
      have : (y :: o)[b] = x := (List.getElem?_eq_some_iff.1 h2).2
      rw [← this, ← List.drop_eq_getElem_cons hbl, List.take_append_drop]
    have her : (y :: o).eraseIdx b = (y :: o).take b ++ (y :: o).drop (b + 1) := by rw [List.eraseIdx_eq_take_drop_succ]
    have hs : srtL (y :: o) = x :: srtL ((y :: o).eraseIdx b) := by
      rw [her]
      conv => lhs; rw [hsp]
      refine srtL_first (fun z hz => ?_) (fun z hz => ?_)
      · obtain ⟨j, hj, e⟩ := List.mem_iff_getElem.1 hz
        have hj' : j < b := by simp only [List.length_take] at hj; omega
        refine (h3 j z ?_).2 hj'
        rw [← e, List.getElem_take]; exact List.getElem?_eq_getElem _
      · obtain ⟨j, hj, e⟩ := List.mem_iff_getElem.1 hz
        refine (h3 (b + 1 + j) z ?_).1
        rw [← e, List.getElem_drop]; exact List.getElem?_eq_getElem _
    have hact2 : q.Active = x :: srtL ((y :: o).eraseIdx b) := by rw [hact, hs]
    have hpop : popQ q = ⟨q.Waiting, srtL ((y :: o).eraseIdx b), q.Stuck, q.Backoff, q.Retries, q.Cycle + 1⟩ := by unfold popQ; rw [hact2]
    have hpk : popK q = x.Key := by unfold popK; rw [hact2]
    have hpb : popB q = true := by unfold popB; rw [hact2]
    have hpi : Inv (popQ q) (n + 1) := (dq_inv (by simp at hn; omega) hi ⟨1, ⟨#[]⟩, 0, 0⟩).1
    have hel : ((y :: o).eraseIdx b).length = o.length := by
      rw [List.length_eraseIdx, if_pos hbl]; simp
    have hfi : FI (popQ q) ((y :: o).eraseIdx b) (n + 1) := by
      refine ⟨hpi, by rw [hpop], fun k2 => ?_, by simp only [List.length_cons] at hlen; omega⟩
      have h4 := hone k2
      rw [hsp, ct_append, ct] at h4
      rw [her, ct_append]; omega
    simp only [List.length_cons] at hn hk hlen
    obtain ⟨q', g1, g2⟩ := F5_l26_spec k (popQ q) ((y :: o).eraseIdx b) (n + 1) (by omega) (by omega) hfi
    refine ⟨q', ?_, by rw [hel] at g2; rw [List.length_cons, show n + (o.length + 1) = n + 1 + o.length from by omega]; exact g2⟩
    rw [F5_l26, if_pos (by simp only [List.length_cons]; omega), ck_t ⟨Nat.zero_le _, by simp only [List.length_cons]; omega⟩, Option.bind_some, h1, Option.bind_some]
    have e : (⟨q.Waiting, q.Active, q.Stuck, q.Backoff, q.Retries, q.Cycle⟩ : SchedQueue) = q := rfl
    have hc := hi.c
    have w1 : IntKind.i64.wrap (q.Cycle + 1) = q.Cycle + 1 := wrapI (by omega) (by omega)
    rw [e, F17_spec hsm (by omega), Option.bind_some, w1]
    have hcyc : (popQ q).Cycle = q.Cycle + 1 := by rw [hpop]
    show ((if nb (popB q) = true then some true else (rdI (y :: o) (b : Int)).bind fun y38 => if ¬ (popK q = y38.Key) then some true else some (decide (¬ ((popQ q).Cycle = q.Cycle + 1)))).bind fun o36 => if o36 = true then (some false).map Sum.inl else (F16 (y :: o) (b : Int)).bind fun t41 => F5_l26 k (popQ q) t41) = some (.inr q')
    rw [hpb, hpk, hcyc, rdI_nat, h2]
    simp only [nb, Bool.not_true, Bool.false_eq_true, if_false, Option.bind_some, not_true_eq_false, decide_false]
    rw [F16_spec _ _ (by simp only [List.length_cons]; omega), Option.bind_some]
    exact g1

theorem SchedqueueFair_pure : SchedqueueFair.Pure := by
  intro l _ _
  unfold F5
  rcases F7_spec l with h | ⟨h, hl⟩
  · rw [h]; simp [nb, F8_true]
  rw [h]
  simp only [Option.bind_some]
  rw [if_neg (by simp [nb])]
  simp only [Option.bind_some, decide_eq_true_eq]
  by_cases c1 : 40 < (l.length : Int)
  · rw [if_pos c1]; simp [F8_true]
  rw [if_neg c1]
  simp only [F9, Option.bind_some]
  rw [ck_t ⟨Nat.zero_le _, by omega⟩, Option.bind_some]
  obtain ⟨q, o, h1, h2⟩ := F5_l7_spec l 0 ⟨[], [], [], [], [], 0⟩ [] 0 (by omega) ⟨inv_new, rfl, fun k => by simp [ct], by simp⟩
  rw [Nat.zero_add] at h2
  rw [h1, Option.bind_some]
  have h3 := h2.len
  obtain ⟨q', g1, g2⟩ := F5_l26_spec 1099511627776 q o l.length (by omega) (by omega) h2
  have e : (⟨q.Waiting, q.Active, q.Stuck, q.Backoff, q.Retries, q.Cycle⟩ : SchedQueue) = q := rfl
  dsimp only
  rw [e, g1]
  have e2 : (⟨q'.Waiting, q'.Active, q'.Stuck, q'.Backoff, q'.Retries, q'.Cycle⟩ : SchedQueue) = q' := rfl
  simp only [Option.bind_some]
  rw [e2, F17_spec (g2.inv.sm (by omega)) (by have := g2.inv.c; omega), F8_true]
  have hb : popB q' = false := by
    have : q'.Active = [] := g2.act
    unfold popB; rw [this]
  simp [tup8, hb, nb]
end Go.Proofs.Ytdpbdbclninjaaa
