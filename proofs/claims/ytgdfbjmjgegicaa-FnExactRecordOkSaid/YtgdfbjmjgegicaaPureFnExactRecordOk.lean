/- Proved: the law FnExactRecordOk answers true at every argument: the program answers as the reference, wherever the law's own guards let the argument in. Conditions: none beyond the given row's. -/
import Derived.Test.YtgdfbjmjgegicaaSFnExactRecordOk
import Derived.Test.YtgdfbjmjgegicaaGenRc
namespace Go.Proofs.Ytgdfbjmjgegicaa.Pure
open Go.RowKit Go.Proofs.Ytgdfbjmjgegicaa.XRc Go.Proofs.Ytgdfbjmjgegicaa.Opened Go.Proofs.YtgdfbjmjgegicaaW.PrintWords Go.Proofs.YtgdfbjmjgegicaaW.PrintLast Go.Proofs.Ytgdfbjmjgegicaa.SFnExactRecordOk Go.Proofs.Ytgdfbjmjgegicaa.Gen
set_option linter.unusedSimpArgs false
set_option linter.unusedVariables false
open Go.Proofs.Ytgdfbjmjgegicaa.Aid
theorem in_ (a b c : Int) : spec_l1In.f a b c = some (decide (b ≤ a ∧ a ≤ c)) := by
  unfold spec_l1In.f
  by_cases h : a ≥ b <;> simp [h]
theorem within_ (a b c : Int) : impl_within.f a b c = some (decide (b ≤ a ∧ a ≤ c)) := by
  unfold impl_within.f
  by_cases h : a ≥ b <;> simp [h]
theorem rd59_get {l : List S59} {i : Nat} (h : i < l.length) : rd_T59 l (i : Int) = l[i] := by
  unfold rd_T59
  rw [Int.toNat_natCast, List.getD_eq_getElem?_getD, List.getElem?_eq_getElem h]
  rfl
theorem rd59_set {l : List S59} {i : Nat} (h : i < l.length) (v : S59) : rd_T59 (l.set i v) (i : Int) = v := by
  rw [rd59_get (by rw [List.length_set]; exact h)]
  simp
theorem rd97_get {l : List S97} {i : Nat} (h : i < l.length) : rd_T97 l (i : Int) = l[i] := by
  unfold rd_T97
  rw [Int.toNat_natCast, List.getD_eq_getElem?_getD, List.getElem?_eq_getElem h]
  rfl
theorem rd97_set {l : List S97} {i : Nat} (h : i < l.length) (v : S97) : rd_T97 (l.set i v) (i : Int) = v := by
  rw [rd97_get (by rw [List.length_set]; exact h)]
  simp
def okS (x : S59) : Bool := decide (0 ≤ x.f0 ∧ x.f0 ≤ 5) && (decide (0 ≤ x.f1 ∧ x.f1 ≤ 5) && (decide (-1000000000 ≤ x.f2 ∧ x.f2 ≤ 1000000000) && decide (0 ≤ x.f4 ∧ x.f4 ≤ 999999)))
theorem spec_set (x : S59) : spec_SetOk.f x.f0 x.f1 x.f2 x.f3 x.f4 = some (okS x) := by
  simp only [spec_SetOk.f, spec_l1Region.f, spec_l1Slot.f, spec_l1Value.f, in_, Option.bind_some, okS]
  by_cases h1 : 0 ≤ x.f0 ∧ x.f0 ≤ 5 <;> by_cases h2 : 0 ≤ x.f1 ∧ x.f1 ≤ 5 <;> by_cases h3 : -1000000000 ≤ x.f2 ∧ x.f2 ≤ 1000000000 <;> simp [h1, h2, h3]
theorem impl_set (x : S59) : impl_isSet.f x.f0 x.f1 x.f2 x.f3 x.f4 = some (okS x) := by
  simp only [impl_isSet.f, impl_isRegion.f, impl_isSlot.f, impl_isValue.f, within_, Option.bind_some, okS]
  by_cases h1 : 0 ≤ x.f0 ∧ x.f0 ≤ 5 <;> by_cases h2 : 0 ≤ x.f1 ∧ x.f1 ≤ 5 <;> by_cases h3 : -1000000000 ≤ x.f2 ∧ x.f2 ≤ 1000000000 <;> simp [h1, h2, h3]
/-- The set at place i is right, and stands rightly behind the one ahead of it. -/
def stepS (l : List S59) (i : Nat) : Bool := okS (rd_T59 l (i : Int)) && (decide (i = 0) || (decide ((rd_T59 l (i : Int)).f0 = (rd_T59 l 0).f0) && decide ((rd_T59 l ((i : Int) - 1)).f1 < (rd_T59 l (i : Int)).f1)))
def okSs (l : List S59) : Nat → Nat → Bool
  | _, 0 => true
  | i, d + 1 => stepS l i && okSs l (i + 1) d
theorem spec_sets_from (l : List S59) (hl : l.length ≤ 1048576) : ∀ d i k, i + d = l.length → 2 * d + 2 < k → spec_l2Sets.l0 k l (i : Int) = some (okSs l i d) := by
  intro d
  induction d with
  | zero =>
    intro i k hd hk
    obtain ⟨k, rfl⟩ : ∃ q, k = q + 1 := ⟨k - 1, by omega⟩
    simp only [spec_l2Sets.l0]
    rw [if_neg (by omega)]
    rfl
  | succ d ih =>
    intro i k hd hk
    obtain ⟨k, rfl⟩ : ∃ q, k = q + 1 := ⟨k - 1, by omega⟩
    have e := ih (i + 1) k (by omega) (by omega)
    rw [show ((i + 1 : Nat) : Int) = (i : Int) + 1 from by omega] at e
    simp only [spec_l2Sets.l0, spec_set, Option.bind_some, if_pos (show (i : Int) < (l.length : Int) by omega), if_pos (show (0 : Int) ≤ (i : Int) by omega), wrap_of (x := (i : Int) + 1) (by omega) (by omega), e, okSs, stepS]
    by_cases h0 : (i : Int) > 0
    · have h0' : ¬ i = 0 := by omega
      simp only [if_pos h0, wrap_of (x := (i : Int) - 1) (by omega) (by omega), if_pos (show 0 ≤ (i : Int) - 1 by omega), if_pos (show (i : Int) - 1 < (l.length : Int) by omega), if_pos (show (0 : Int) < (l.length : Int) by omega)]
      by_cases a2 : (rd_T59 l (i : Int)).f1 ≤ (rd_T59 l ((i : Int) - 1)).f1
      · have a2' : ¬ (rd_T59 l ((i : Int) - 1)).f1 < (rd_T59 l (i : Int)).f1 := by omega
        cases okS (rd_T59 l (i : Int)) <;> simp [h0', a2, a2']
      · have a2' : (rd_T59 l ((i : Int) - 1)).f1 < (rd_T59 l (i : Int)).f1 := by omega
        by_cases a3 : (rd_T59 l (i : Int)).f0 = (rd_T59 l 0).f0 <;> cases okS (rd_T59 l (i : Int)) <;> simp [h0', a2, a2', a3]
    · have h0' : i = 0 := by omega
      rw [if_neg h0]
      cases okS (rd_T59 l (i : Int)) <;> simp [h0']
theorem impl_sets_from (l : List S59) (hl : l.length ≤ 1048576) : ∀ d i k, i + d = l.length → 2 * d + 2 < k → impl_areSets.l0 k l l (l.length : Int) (i : Int) = some (okSs l i d) := by
  intro d
  induction d with
  | zero =>
    intro i k hd hk
    obtain ⟨k, rfl⟩ : ∃ q, k = q + 1 := ⟨k - 1, by omega⟩
    simp only [impl_areSets.l0]
    rw [if_neg (by omega)]
    rfl
  | succ d ih =>
    intro i k hd hk
    obtain ⟨k, rfl⟩ : ∃ q, k = q + 1 := ⟨k - 1, by omega⟩
    have e := ih (i + 1) k (by omega) (by omega)
    rw [show ((i + 1 : Nat) : Int) = (i : Int) + 1 from by omega] at e
    simp only [impl_areSets.l0, impl_set, Option.bind_some, if_pos (show (i : Int) < (l.length : Int) by omega), if_pos (show (0 : Int) ≤ (i : Int) by omega), if_pos (show (0 : Int) < (l.length : Int) by omega), wrap_of (x := (i : Int) + 1) (by omega) (by omega), e, okSs, stepS]
    by_cases h0 : (i : Int) > 0
    · have h0' : ¬ i = 0 := by omega
      simp only [if_pos h0, wrap_of (x := (i : Int) - 1) (by omega) (by omega), if_pos (show 0 ≤ (i : Int) - 1 by omega), if_pos (show (i : Int) - 1 < (l.length : Int) by omega)]
      by_cases a2 : (rd_T59 l (i : Int)).f1 ≤ (rd_T59 l ((i : Int) - 1)).f1
      · have a2' : ¬ (rd_T59 l ((i : Int) - 1)).f1 < (rd_T59 l (i : Int)).f1 := by omega
        by_cases a3 : (rd_T59 l (i : Int)).f0 = (rd_T59 l 0).f0 <;> cases okS (rd_T59 l (i : Int)) <;> simp [h0', a2, a2', a3]
      · have a2' : (rd_T59 l ((i : Int) - 1)).f1 < (rd_T59 l (i : Int)).f1 := by omega
        by_cases a3 : (rd_T59 l (i : Int)).f0 = (rd_T59 l 0).f0 <;> cases okS (rd_T59 l (i : Int)) <;> simp [h0', a2, a2', a3]
    · have h0' : i = 0 := by omega
      subst h0'
      rw [if_neg h0]
      cases okS (rd_T59 l ((0 : Nat) : Int)) <;> simp
theorem spec_sets (l : List S59) (hl : l.length ≤ 1048576) (k : Nat) (hk : 2 * l.length + 2 < k) : spec_l2Sets.f k l = some (okSs l 0 l.length) := spec_sets_from l hl l.length 0 k (by omega) hk
theorem impl_sets (l : List S59) (hl : l.length ≤ 1048576) (k : Nat) (hk : 2 * l.length + 2 < k) : impl_areSets.f k l = some (okSs l 0 l.length) := impl_sets_from l hl l.length 0 k (by omega) hk
theorem okSs_at (l : List S59) : ∀ d i, okSs l i d = true → ∀ j, i ≤ j → j < i + d → okS (rd_T59 l (j : Int)) = true := by
  intro d
  induction d with
  | zero => intro i _ j h1 h2; omega
  | succ d ih =>
    intro i h j h1 h2
    simp only [okSs, Bool.and_eq_true] at h
    by_cases hj : j = i
    · subst hj
      have := h.1
      simp only [stepS, Bool.and_eq_true] at this
      exact this.1
    · exact ih (i + 1) h.2 j (by omega) (by omega)
theorem okS_slot {x : S59} (h : okS x = true) : 0 ≤ x.f1 ∧ x.f1 ≤ 5 := by
  simp only [okS, Bool.and_eq_true, decide_eq_true_eq] at h
  exact h.2.1
theorem okS_ver {x : S59} (h : okS x = true) : 0 ≤ x.f4 ∧ x.f4 ≤ 999999 := by
  simp only [okS, Bool.and_eq_true, decide_eq_true_eq] at h
  exact h.2.2.2
def toS (p : S97) : S59 := ⟨p.f0, p.f1, p.f2, p.f3, p.f4⟩
theorem toSetS_ok (l : List S97) (hl : l.length ≤ 1048576) (k : Nat) (hk : l.length < k) : laws_toSetS.f k l = some (l.map toS) := by
  unfold laws_toSetS.f
  rw [if_pos (by omega), if_pos (by omega)]
  exact loop_to (fun k (s : List S59 × Int) => laws_toSetS.l0 k l s.1 s.2) (fun i s => s.2 = (i : Int) ∧ s.1.length = (l.map toS).length ∧ s.1.take i = (l.map toS).take i) l.length 0 (l.map toS)
    (fun k i s hk hi hP => ⟨(s.1.set s.2.toNat (toS l[i]), wrap64 (s.2 + 1)), by
      obtain ⟨h1, h2, h3⟩ := hP
      refine ⟨by show wrap64 (s.2 + 1) = _; rw [h1, wrap_of (by omega) (by omega)]; omega, by show (s.1.set _ _).length = _; rw [List.length_set, h2], ?_⟩
      show (s.1.set s.2.toNat (toS l[i])).take (i + 1) = _
      rw [h1, Int.toNat_natCast]
      exact take_next h2 (by simpa using hi) h3 (by simp), by
      obtain ⟨h1, h2, h3⟩ := hP
      rw [List.length_map] at h2
      show laws_toSetS.l0 (k + 1) l s.1 s.2 = _
      simp only [laws_toSetS.l0, laws_toSet.f]
      rw [if_pos (by omega), if_pos (by omega), h1, rd97_get hi]
      simp only [Option.bind_some]
      rw [if_pos (by omega)]
      rfl⟩)
    (fun k s hk hP => by
      obtain ⟨h1, h2, h3⟩ := hP
      show laws_toSetS.l0 (k + 1) l s.1 s.2 = _
      simp only [laws_toSetS.l0]
      rw [if_neg (by omega)]
      rw [List.take_of_length_le (by rw [h2, List.length_map]; omega), List.take_of_length_le (by simp)] at h3
      rw [h3]) 0 k (List.replicate ((l.length : Int)).toNat z59, 0) (by omega) (by omega) ⟨rfl, by simp, by simp⟩
theorem eqSetS_ok (l : List S59) (hl : l.length ≤ 9000000000000) (k : Nat) (hk : l.length < k) : laws_eqSetS.f k l l = some true := by
  unfold laws_eqSetS.f
  rw [if_pos rfl]
  exact loop_to (fun k (s : Int) => laws_eqSetS.l0 k l l s) (fun i s => s = (i : Int)) l.length 0 true
    (fun k i s hk hi hP => ⟨wrap64 (s + 1), by rw [hP, wrap_of (by omega) (by omega)]; omega, by
      show laws_eqSetS.l0 (k + 1) l l s = _
      simp only [laws_eqSetS.l0]
      rw [if_pos (by omega), if_pos (by omega), if_pos (by omega)]
      simp [laws_eqSet.f]⟩)
    (fun k s _ hP => by
      show laws_eqSetS.l0 (k + 1) l l s = _
      simp only [laws_eqSetS.l0]
      rw [if_neg (by omega)]) 0 k 0 (by omega) (by omega) rfl
theorem szSetS_ok (l : List S97) (a : Int) (ha : 0 ≤ a) (ha' : a ≤ 1048576) (hl : l.length ≤ maxLen) : laws_szSetS.f l a = some (if a < (l.length : Int) then -1 else a - (l.length : Int)) := by
  unfold maxLen at hl
  unfold laws_szSetS.f
  rw [wrap_of (by omega) (by omega)]
  by_cases h : a < (l.length : Int)
  · rw [if_pos (by omega), if_pos h]
  · rw [if_neg (by omega), if_neg h]
theorem okSs_reg (l : List S59) : ∀ d i, okSs l i d = true → ∀ j, i ≤ j → j < i + d → (rd_T59 l (j : Int)).f0 = (rd_T59 l 0).f0 := by
  intro d
  induction d with
  | zero => intro i _ j h1 h2; omega
  | succ d ih =>
    intro i h j h1 h2
    simp only [okSs, Bool.and_eq_true] at h
    by_cases hj : j = i
    · subst hj
      have := h.1
      simp only [stepS, Bool.and_eq_true, Bool.or_eq_true, decide_eq_true_eq] at this
      rcases this.2 with h0 | h0
      · subst h0; rfl
      · exact h0.1
    · exact ih (i + 1) h.2 j (by omega) (by omega)
theorem regions (l : List S59) (q : Int) (h1 : 1 ≤ l.length) (h : okSs l 0 l.length = true) : impl_Set_120.f l q = some (!decide ((rd_T59 l 0).f0 = q)) := by
  obtain ⟨r, e, hr⟩ := idx_total (fun x : S59 => impl_isRecord_1.f x.f0 x.f1 x.f2 x.f3 x.f4 q) (fun x => x.f0 != q) l (fun x _ => rfl) 0
  simp only [impl_Set_120.f, e, Option.bind_some, hr]
  have hall := okSs_reg l l.length 0 h
  by_cases hq : (rd_T59 l 0).f0 = q
  · have : l.any (fun x => x.f0 != q) = false := by
      rw [List.any_eq_false]
      intro x hx
      obtain ⟨j, hj, rfl⟩ := List.mem_iff_getElem.1 hx
      have := hall j (by omega) (by omega)
      rw [rd59_get hj] at this
      simp [this, hq]
    simp [this, hq]
  · have : l.any (fun x => x.f0 != q) = true := by
      rw [List.any_eq_true]
      have h0 : 0 < l.length := by omega
      refine ⟨l[0], List.getElem_mem h0, ?_⟩
      have := rd59_get h0
      rw [show ((0 : Nat) : Int) = 0 from rfl] at this
      rw [this] at hq
      simp [hq]
    simp [this, hq]
theorem record_ok (a b c : Int) (l : List S59) (hl : l.length ≤ 1048576) (k : Nat) (hk : 2 * l.length + 2 < k) : ∃ r, spec_RecordOk.f k a b c l = some r ∧ impl_isRecord.f k a b c l = some r := by
  simp only [spec_RecordOk.f, impl_isRecord.f, spec_l1Id.f, spec_l1Region.f, impl_isId.f, impl_isRegion.f, impl_Set_119.f, in_, within_, spec_sets l hl k hk, impl_sets l hl k hk, Option.bind_some]
  by_cases h1 : 1 ≤ a ∧ a ≤ 3
  · by_cases h2 : 1 ≤ b ∧ b ≤ 1000000
    · by_cases h3 : 0 ≤ c ∧ c ≤ 5
      · by_cases h4 : (l.length : Int) ≥ 1
        · by_cases h5 : (l.length : Int) ≤ 12
          · have h6 : 1 ≤ (l.length : Int) ∧ (l.length : Int) ≤ 12 := ⟨h4, h5⟩
            by_cases h7 : okSs l 0 l.length = true
            · rw [regions l c (by omega) h7]
              have h8 : 0 < l.length := by omega
              by_cases h9 : (rd_T59 l 0).f0 = c <;> simp [h1, h2, h3, h4, h5, h6, h7, h8, h9]
            · simp [h1, h2, h3, h4, h5, h6, h7]
          · have h6 : ¬ (1 ≤ (l.length : Int) ∧ (l.length : Int) ≤ 12) := by omega
            simp only [decide_eq_true h1, decide_eq_true h2, decide_eq_true h3, if_pos h4, if_neg h5, decide_eq_false h6]
            simp
        · have h6 : ¬ (1 ≤ (l.length : Int) ∧ (l.length : Int) ≤ 12) := by omega
          simp only [decide_eq_true h1, decide_eq_true h2, decide_eq_true h3, if_neg h4, decide_eq_false h6]
          simp
      · simp [h1, h2, h3]
    · simp [h1, h2]
  · simp [h1]
theorem FnExactRecordOk : SFnExactRecordOk.Pure := by
  intro a b c l _ _ _ hl _
  obtain ⟨K, hK⟩ : ∃ K, 20000000 < K := ⟨_, Nat.lt_succ_self _⟩
  refine ⟨K, ?_⟩
  unfold laws_FnExactRecordOk.f
  simp only [laws_szRecord.f, szSetS_ok l 1048576 (by omega) (by omega) hl, Option.bind_some]
  by_cases h : (1048576 : Int) < (l.length : Int)
  · rw [if_pos h, if_pos (by omega)]
    simp
  rw [if_neg h, if_neg (by omega)]
  have hm : (l.map toS).length = l.length := List.length_map ..
  obtain ⟨r, e1, e2⟩ := record_ok a b c (l.map toS) (by omega) K (by omega)
  simp only [laws_toRecord.f, toSetS_ok l (by omega) K (by omega), Option.bind_some, impl_RecordOk.f, e1, e2, laws_eqRecord.f, eqSetS_ok (l.map toS) (by omega) K (by omega)]
  simp
  (try omega)
end Go.Proofs.Ytgdfbjmjgegicaa.Pure
