/- Proved: the law FnLocks answers true at every argument: the program answers as the reference, wherever the law's own guards let the argument in. Conditions: none beyond the given row's. -/
import Derived.Test.YtgdfbjmjgegicaaSFnLocks
import Derived.Test.YtgdfbjmjgegicaaGenLs
namespace Go.Proofs.Ytgdfbjmjgegicaa.Pure
open Go.RowKit Go.Proofs.Ytgdfbjmjgegicaa.XLs Go.Proofs.Ytgdfbjmjgegicaa.Opened Go.Proofs.YtgdfbjmjgegicaaW.PrintWords Go.Proofs.YtgdfbjmjgegicaaW.PrintLast Go.Proofs.Ytgdfbjmjgegicaa.SFnLocks Go.Proofs.Ytgdfbjmjgegicaa.Gen
set_option linter.unusedSimpArgs false
set_option linter.unusedVariables false
open Go.Proofs.Ytgdfbjmjgegicaa.Aid
theorem in_ (a b c : Int) : spec_l1In.f a b c = some (decide (b ≤ a ∧ a ≤ c)) := by
  unfold spec_l1In.f
  by_cases h : a ≥ b <;> simp [h]
theorem within_ (a b c : Int) : impl_within.f a b c = some (decide (b ≤ a ∧ a ≤ c)) := by
  unfold impl_within.f
  by_cases h : a ≥ b <;> simp [h]
theorem rd30_get {l : List S30} {i : Nat} (h : i < l.length) : rd_T30 l (i : Int) = l[i] := by
  unfold rd_T30
  rw [Int.toNat_natCast, List.getD_eq_getElem?_getD, List.getElem?_eq_getElem h]
  rfl
theorem rd30_set {l : List S30} {i : Nat} (h : i < l.length) (v : S30) : rd_T30 (l.set i v) (i : Int) = v := by
  rw [rd30_get (by rw [List.length_set]; exact h)]
  simp
theorem rd59_get {l : List S59} {i : Nat} (h : i < l.length) : rd_T59 l (i : Int) = l[i] := by
  unfold rd_T59
  rw [Int.toNat_natCast, List.getD_eq_getElem?_getD, List.getElem?_eq_getElem h]
  rfl
theorem rd59_set {l : List S59} {i : Nat} (h : i < l.length) (v : S59) : rd_T59 (l.set i v) (i : Int) = v := by
  rw [rd59_get (by rw [List.length_set]; exact h)]
  simp
/-- A cell is right. -/
def okC (c : S30) : Bool := decide (0 ≤ c.f0 ∧ c.f0 ≤ 4000003) && (decide (-1000000000 ≤ c.f1 ∧ c.f1 ≤ 1000000000) && (decide (c.f0 / 2 % 2 = 1) || decide (c.f1 = 0)))
theorem spec_used (a : Int) : spec_Used.f a = some (decide (0 ≤ a ∧ a ≤ 4000003) && decide (a / 2 % 2 = 1)) := by
  simp only [spec_Used.f, spec_HeadOk.f, in_, Option.bind_some]
  by_cases h : 0 ≤ a ∧ a ≤ 4000003
  · rw [if_pos (by simpa using h), Int.tdiv_eq_ediv_of_nonneg h.1, wrap_of (by omega) (by omega), Int.tmod_eq_emod_of_nonneg (by omega)]
    simp [h]
    rfl
  · rw [if_neg (by simpa using h)]
    simp [h]
theorem spec_cells_from (l : List S30) (hl : l.length ≤ 1048576) : ∀ d i k, i + d = l.length → d < k → spec_CellsOk.l0 k l (i : Int) = some ((l.drop i).all okC) := by
  intro d
  induction d with
  | zero =>
    intro i k hd hk
    obtain ⟨k, rfl⟩ : ∃ m, k = m + 1 := ⟨k - 1, by omega⟩
    simp only [spec_CellsOk.l0]
    rw [if_neg (by omega), List.drop_of_length_le (by omega)]
    rfl
  | succ d ih =>
    intro i k hd hk
    obtain ⟨k, rfl⟩ : ∃ m, k = m + 1 := ⟨k - 1, by omega⟩
    simp only [spec_CellsOk.l0]
    rw [if_pos (by omega), if_pos (by omega), rd30_get (show i < l.length by omega), wrap_of (by omega) (by omega), List.drop_eq_getElem_cons (show i < l.length by omega)]
    have e := ih (i + 1) k (by omega) (by omega)
    rw [show ((i + 1 : Nat) : Int) = (i : Int) + 1 from by omega] at e
    rw [e]
    simp only [spec_HeadOk.f, spec_l1Value.f, in_, spec_used, Option.bind_some, List.all_cons, okC]
    by_cases h1 : 0 ≤ l[i].f0 ∧ l[i].f0 ≤ 4000003 <;> by_cases h2 : -1000000000 ≤ l[i].f1 ∧ l[i].f1 ≤ 1000000000 <;> by_cases h3 : l[i].f0 / 2 % 2 = 1 <;> by_cases h4 : l[i].f1 = 0 <;> simp [h1, h2, h3, h4]
def okCs (l : List S30) : Bool := decide (l.length = 6) && l.all okC
theorem spec_cells (l : List S30) (hl : l.length ≤ 1048576) (k : Nat) (hk : l.length < k) : spec_CellsOk.f k l = some (okCs l) := by
  unfold spec_CellsOk.f okCs
  by_cases h : l.length = 6
  · rw [if_pos (by omega)]
    have e := spec_cells_from l hl l.length 0 k (by omega) hk
    rw [show ((0 : Nat) : Int) = 0 from rfl] at e
    rw [e]
    simp [h]
  · rw [if_neg (by omega)]
    simp [h]
theorem impl_cell (x : S30) : impl_areCells_1.f x.f0 x.f1 = some (!okC x) := by
  simp only [impl_areCells_1.f, impl_isHead.f, impl_isValue.f, within_, Option.bind_some, okC]
  by_cases h1 : 0 ≤ x.f0 ∧ x.f0 ≤ 4000003
  · by_cases h2 : -1000000000 ≤ x.f1 ∧ x.f1 ≤ 1000000000
    · rw [if_pos (by simpa using h1), if_pos (by simpa using h2), and2]
      by_cases h3 : x.f0 / 2 % 2 = 1
      · rw [if_neg (by omega)]
        simp [h1, h2, h3]
      · rw [if_pos (by omega)]
        by_cases h4 : x.f1 = 0 <;> simp [h1, h2, h3, h4]
    · rw [if_pos (by simpa using h1), if_neg (by simpa using h2)]
      simp [h1, h2]
  · rw [if_neg (by simpa using h1)]
    simp [h1]
theorem impl_cells (l : List S30) : impl_areCells.f l = some (okCs l) := by
  unfold impl_areCells.f okCs
  by_cases h : l.length = 6
  · rw [if_pos (by omega)]
    obtain ⟨r, e, hr⟩ := idx_total (fun x : S30 => impl_areCells_1.f x.f0 x.f1) (fun x => !okC x) l (fun x _ => impl_cell x) 0
    simp only [impl_Cell_105.f, e, Option.bind_some, hr]
    rw [← List.not_all_eq_any_not]
    simp [h]
  · rw [if_neg (by omega)]
    simp [h]
theorem spec_locked (a : Int) : spec_Locked.f a = some (decide (0 ≤ a ∧ a ≤ 4000003) && decide (a % 2 = 1)) := by
  simp only [spec_Locked.f, spec_HeadOk.f, in_, Option.bind_some]
  by_cases h : 0 ≤ a ∧ a ≤ 4000003
  · rw [if_pos (by simpa using h), Int.tmod_eq_emod_of_nonneg h.1]
    simp [h]
    rfl
  · rw [if_neg (by simpa using h)]
    simp [h]
theorem okCs_head {l : List S30} (h : okCs l = true) {i : Nat} (hi : i < l.length) : 0 ≤ l[i].f0 ∧ l[i].f0 ≤ 4000003 := by
  unfold okCs at h
  rw [Bool.and_eq_true, List.all_eq_true] at h
  have e := h.2 l[i] (List.getElem_mem hi)
  unfold okC at e
  rw [Bool.and_eq_true] at e
  exact of_decide_eq_true e.1
theorem okCs_len {l : List S30} (h : okCs l = true) : l.length = 6 := by
  unfold okCs at h
  rw [Bool.and_eq_true] at h
  exact of_decide_eq_true h.1
theorem or1 (n : Int) (h0 : 0 ≤ n) (h1 : n ≤ 4611686018427387904) : Go.bits .or .i64 n 1 = 2 * (n / 2) + 1 := by
  show IntKind.i64.wrap ((BitVec.ofInt 64 n ||| BitVec.ofInt 64 1).toNat : Nat) = _
  have h1' : (BitVec.ofInt 64 1).toNat = 1 := by decide
  obtain ⟨a, rfl⟩ : ∃ a : Nat, n = (a : Int) := ⟨n.toNat, by omega⟩
  have h2 : (BitVec.ofInt 64 (a : Int)).toNat = a := by rw [BitVec.ofInt_natCast, BitVec.toNat_ofNat]; exact Nat.mod_eq_of_lt (by omega)
  rw [BitVec.toNat_or, h1', h2]
  have e1 : (a ||| 1) / 2 = a / 2 := by rw [Nat.or_div_two]; simp
  have e2 : (a ||| 1) % 2 ^ 1 = (a % 2 ^ 1) ||| (1 % 2 ^ 1) := Nat.or_mod_two_pow
  have e3 : (a ||| 1) % 2 = 1 := by
    have : a % 2 = 0 ∨ a % 2 = 1 := by omega
    have e2' : (a ||| 1) % 2 = (a % 2) ||| 1 := e2
    rcases this with h | h <;> rw [e2', h] <;> rfl
  rw [wraps_i64 _ (Int.natCast_nonneg _) (by omega)]
  omega
theorem andNot1 (n : Int) (h0 : 0 ≤ n) (h1 : n ≤ 4611686018427387904) : Go.bits .andNot .i64 n 1 = 2 * (n / 2) := by
  show IntKind.i64.wrap ((BitVec.ofInt 64 n &&& ~~~ (BitVec.ofInt 64 1)).toNat : Nat) = _
  have h1' : (~~~ (BitVec.ofInt 64 1)).toNat = 18446744073709551614 := by decide
  obtain ⟨a, rfl⟩ : ∃ a : Nat, n = (a : Int) := ⟨n.toNat, by omega⟩
  have h2 : (BitVec.ofInt 64 (a : Int)).toNat = a := by rw [BitVec.ofInt_natCast, BitVec.toNat_ofNat]; exact Nat.mod_eq_of_lt (by omega)
  rw [BitVec.toNat_and, h1', h2]
  have e1 : (a &&& 18446744073709551614) / 2 = a / 2 := by
    rw [Nat.and_div_two, show 18446744073709551614 / 2 = 2 ^ 63 - 1 by decide, Nat.and_two_pow_sub_one_eq_mod]
    exact Nat.mod_eq_of_lt (by omega)
  have e2 : (a &&& 18446744073709551614) % 2 ^ 1 = (a % 2 ^ 1) &&& (18446744073709551614 % 2 ^ 1) := Nat.and_mod_two_pow
  have e3 : (a &&& 18446744073709551614) % 2 = 0 := by
    have e2' : (a &&& 18446744073709551614) % 2 = (a % 2) &&& 0 := e2
    rw [e2', Nat.and_zero]
  rw [wraps_i64 _ (Int.natCast_nonneg _) (by omega)]
  omega
def okS (x : S59) : Bool := decide (0 ≤ x.f0 ∧ x.f0 ≤ 5) && (decide (0 ≤ x.f1 ∧ x.f1 ≤ 5) && (decide (-1000000000 ≤ x.f2 ∧ x.f2 ≤ 1000000000) && decide (0 ≤ x.f4 ∧ x.f4 ≤ 999999)))
theorem spec_set (x : S59) : spec_SetOk.f x.f0 x.f1 x.f2 x.f3 x.f4 = some (okS x) := by
  simp only [spec_SetOk.f, spec_l1Region.f, spec_l1Slot.f, spec_l1Value.f, in_, Option.bind_some, okS]
  by_cases h1 : 0 ≤ x.f0 ∧ x.f0 ≤ 5 <;> by_cases h2 : 0 ≤ x.f1 ∧ x.f1 ≤ 5 <;> by_cases h3 : -1000000000 ≤ x.f2 ∧ x.f2 ≤ 1000000000 <;> simp [h1, h2, h3]
theorem impl_set (x : S59) : impl_isSet.f x.f0 x.f1 x.f2 x.f3 x.f4 = some (okS x) := by
  simp only [impl_isSet.f, impl_isRegion.f, impl_isSlot.f, impl_isValue.f, within_, Option.bind_some, okS]
  by_cases h1 : 0 ≤ x.f0 ∧ x.f0 ≤ 5 <;> by_cases h2 : 0 ≤ x.f1 ∧ x.f1 ≤ 5 <;> by_cases h3 : -1000000000 ≤ x.f2 ∧ x.f2 ≤ 1000000000 <;> simp [h1, h2, h3]
/-- The set at place i is right, and stands rightly behind the one ahead of it. -/
def stepS (l : List S59) (i : Nat) : Bool := okS (rd_T59 l (i : Int)) && (decide (i = 0) || (decide ((rd_T59 l (i : Int)).f0 = (rd_T59 l 0).f0) && decide ((rd_T59 l ((i : Int) - 1)).f1 < (rd_T59 l (i : Int)).f1)))
def okSs (l : List S59) : Nat → Nat → Bool
  | _, 0 => true
  | i, d + 1 => stepS l i && okSs l (i + 1) d
theorem spec_sets_from (l : List S59) (hl : l.length ≤ 1048576) : ∀ d i k, i + d = l.length → 2 * d + 2 < k → spec_l2Sets.l0 k l (i : Int) = some (okSs l i d) := by
  intro d
  induction d with
  | zero =>
    intro i k hd hk
    obtain ⟨k, rfl⟩ : ∃ q, k = q + 1 := ⟨k - 1, by omega⟩
    simp only [spec_l2Sets.l0]
    rw [if_neg (by omega)]
    rfl
  | succ d ih =>
    intro i k hd hk
    obtain ⟨k, rfl⟩ : ∃ q, k = q + 1 := ⟨k - 1, by omega⟩
    have e := ih (i + 1) k (by omega) (by omega)
    rw [show ((i + 1 : Nat) : Int) = (i : Int) + 1 from by omega] at e
    simp only [spec_l2Sets.l0, spec_set, Option.bind_some, if_pos (show (i : Int) < (l.length : Int) by omega), if_pos (show (0 : Int) ≤ (i : Int) by omega), wrap_of (x := (i : Int) + 1) (by omega) (by omega), e, okSs, stepS]
    by_cases h0 : (i : Int) > 0
    · have h0' : ¬ i = 0 := by omega
      simp only [if_pos h0, wrap_of (x := (i : Int) - 1) (by omega) (by omega), if_pos (show 0 ≤ (i : Int) - 1 by omega), if_pos (show (i : Int) - 1 < (l.length : Int) by omega), if_pos (show (0 : Int) < (l.length : Int) by omega)]
      by_cases a2 : (rd_T59 l (i : Int)).f1 ≤ (rd_T59 l ((i : Int) - 1)).f1
      · have a2' : ¬ (rd_T59 l ((i : Int) - 1)).f1 < (rd_T59 l (i : Int)).f1 := by omega
        cases okS (rd_T59 l (i : Int)) <;> simp [h0', a2, a2']
      · have a2' : (rd_T59 l ((i : Int) - 1)).f1 < (rd_T59 l (i : Int)).f1 := by omega
        by_cases a3 : (rd_T59 l (i : Int)).f0 = (rd_T59 l 0).f0 <;> cases okS (rd_T59 l (i : Int)) <;> simp [h0', a2, a2', a3]
    · have h0' : i = 0 := by omega
      rw [if_neg h0]
      cases okS (rd_T59 l (i : Int)) <;> simp [h0']
theorem impl_sets_from (l : List S59) (hl : l.length ≤ 1048576) : ∀ d i k, i + d = l.length → 2 * d + 2 < k → impl_areSets.l0 k l l (l.length : Int) (i : Int) = some (okSs l i d) := by
  intro d
  induction d with
  | zero =>
    intro i k hd hk
    obtain ⟨k, rfl⟩ : ∃ q, k = q + 1 := ⟨k - 1, by omega⟩
    simp only [impl_areSets.l0]
    rw [if_neg (by omega)]
    rfl
  | succ d ih =>
    intro i k hd hk
    obtain ⟨k, rfl⟩ : ∃ q, k = q + 1 := ⟨k - 1, by omega⟩
    have e := ih (i + 1) k (by omega) (by omega)
    rw [show ((i + 1 : Nat) : Int) = (i : Int) + 1 from by omega] at e
    simp only [impl_areSets.l0, impl_set, Option.bind_some, if_pos (show (i : Int) < (l.length : Int) by omega), if_pos (show (0 : Int) ≤ (i : Int) by omega), if_pos (show (0 : Int) < (l.length : Int) by omega), wrap_of (x := (i : Int) + 1) (by omega) (by omega), e, okSs, stepS]
    by_cases h0 : (i : Int) > 0
    · have h0' : ¬ i = 0 := by omega
      simp only [if_pos h0, wrap_of (x := (i : Int) - 1) (by omega) (by omega), if_pos (show 0 ≤ (i : Int) - 1 by omega), if_pos (show (i : Int) - 1 < (l.length : Int) by omega)]
      by_cases a2 : (rd_T59 l (i : Int)).f1 ≤ (rd_T59 l ((i : Int) - 1)).f1
      · have a2' : ¬ (rd_T59 l ((i : Int) - 1)).f1 < (rd_T59 l (i : Int)).f1 := by omega
        by_cases a3 : (rd_T59 l (i : Int)).f0 = (rd_T59 l 0).f0 <;> cases okS (rd_T59 l (i : Int)) <;> simp [h0', a2, a2', a3]
      · have a2' : (rd_T59 l ((i : Int) - 1)).f1 < (rd_T59 l (i : Int)).f1 := by omega
        by_cases a3 : (rd_T59 l (i : Int)).f0 = (rd_T59 l 0).f0 <;> cases okS (rd_T59 l (i : Int)) <;> simp [h0', a2, a2', a3]
    · have h0' : i = 0 := by omega
      subst h0'
      rw [if_neg h0]
      cases okS (rd_T59 l ((0 : Nat) : Int)) <;> simp
theorem spec_sets (l : List S59) (hl : l.length ≤ 1048576) (k : Nat) (hk : 2 * l.length + 2 < k) : spec_l2Sets.f k l = some (okSs l 0 l.length) := spec_sets_from l hl l.length 0 k (by omega) hk
theorem impl_sets (l : List S59) (hl : l.length ≤ 1048576) (k : Nat) (hk : 2 * l.length + 2 < k) : impl_areSets.f k l = some (okSs l 0 l.length) := impl_sets_from l hl l.length 0 k (by omega) hk
theorem okSs_at (l : List S59) : ∀ d i, okSs l i d = true → ∀ j, i ≤ j → j < i + d → okS (rd_T59 l (j : Int)) = true := by
  intro d
  induction d with
  | zero => intro i _ j h1 h2; omega
  | succ d ih =>
    intro i h j h1 h2
    simp only [okSs, Bool.and_eq_true] at h
    by_cases hj : j = i
    · subst hj
      have := h.1
      simp only [stepS, Bool.and_eq_true] at this
      exact this.1
    · exact ih (i + 1) h.2 j (by omega) (by omega)
theorem okS_slot {x : S59} (h : okS x = true) : 0 ≤ x.f1 ∧ x.f1 ≤ 5 := by
  simp only [okS, Bool.and_eq_true, decide_eq_true_eq] at h
  exact h.2.1
theorem okS_ver {x : S59} (h : okS x = true) : 0 ≤ x.f4 ∧ x.f4 ≤ 999999 := by
  simp only [okS, Bool.and_eq_true, decide_eq_true_eq] at h
  exact h.2.2.2
theorem rd30_set_if (x : List S30) (n : Nat) (v : S30) (j : Int) (hn : n < x.length) : rd_T30 (x.set n v) j = if j.toNat = n then v else rd_T30 x j := by
  unfold rd_T30
  rw [List.getD_eq_getElem?_getD, List.getD_eq_getElem?_getD, List.getElem?_set]
  by_cases h : n = j.toNat
  · rw [if_pos h, if_pos hn, if_pos h.symm]
    rfl
  · rw [if_neg h, if_neg (fun e => h e.symm)]
def inv6 (x : List S30) : Prop := x.length = 6 ∧ ∀ j : Int, 0 ≤ (rd_T30 x j).f0 ∧ (rd_T30 x j).f0 ≤ 4000003
theorem inv6_set {x : List S30} (h : inv6 x) {n : Nat} {v : S30} (hn : n < 6) (hv : 0 ≤ v.f0 ∧ v.f0 ≤ 4000003) : inv6 (x.set n v) := by
  refine ⟨by rw [List.length_set]; exact h.1, fun j => ?_⟩
  rw [rd30_set_if x n v j (by rw [h.1]; exact hn)]
  by_cases hj : j.toNat = n
  · rw [if_pos hj]; exact hv
  · rw [if_neg hj]; exact h.2 j
theorem inv6_of {l : List S30} (h : okCs l = true) : inv6 l := by
  refine ⟨okCs_len h, fun j => ?_⟩
  by_cases hj : j.toNat < l.length
  · have e : rd_T30 l j = l[j.toNat] := by
      unfold rd_T30
      rw [List.getD_eq_getElem?_getD, List.getElem?_eq_getElem hj]; rfl
    rw [e]
    exact okCs_head h hj
  · have e : rd_T30 l j = z30 := by
      unfold rd_T30
      rw [List.getD_eq_getElem?_getD, List.getElem?_eq_none (by omega)]; rfl
    rw [e]
    exact ⟨by decide, by decide⟩
theorem quarter (x : Int) (h0 : 0 ≤ x) (h1 : x ≤ 4000003) : wrap64 (Int.tdiv x 4) = x / 4 := by
  rw [Int.tdiv_eq_ediv_of_nonneg h0, wrap_of (by omega) (by omega)]
theorem spec_ver (a : Int) (h : 0 ≤ a ∧ a ≤ 4000003) : spec_Version.f a = some (a / 4) := by
  simp only [spec_Version.f, spec_HeadOk.f, in_, Option.bind_some]
  rw [if_pos (by simpa using h), quarter a h.1 h.2]
theorem copy_ok (l : List S30) (hl : l.length ≤ 1048576) : spec_l3Copy.f l = some l := by
  simp only [spec_l3Copy.f, Option.bind_some, List.nil_append, List.length_nil]
  rw [if_pos (by omega)]
theorem clone_ok (l : List S30) (hl : l.length ≤ 1048576) : impl_Cell_81.f l = some l := by
  simp only [impl_Cell_81.f, Option.bind_some, List.nil_append, List.length_nil]
  rw [if_pos (by omega)]
def okL (l : List S30) (s : List S59) : Nat → Nat → Bool
  | _, 0 => true
  | i, d + 1 => (decide ((rd_T30 l (rd_T59 s (i : Int)).f1).f0 % 2 = 0) && decide ((rd_T30 l (rd_T59 s (i : Int)).f1).f0 / 4 = (rd_T59 s (i : Int)).f4)) && okL l s (i + 1) d
def lkL (l : List S30) (s : List S59) : Nat → Nat → List S30 → List S30
  | _, 0, x => x
  | i, d + 1, x => lkL l s (i + 1) d (x.set (rd_T59 s (i : Int)).f1.toNat ⟨(rd_T30 l (rd_T59 s (i : Int)).f1).f0 + 1, (rd_T30 x (rd_T59 s (i : Int)).f1).f1⟩)
theorem lkL_len (l : List S30) (s : List S59) : ∀ d i x, (lkL l s i d x).length = x.length := by
  intro d
  induction d with
  | zero => intro i x; rfl
  | succ d ih => intro i x; simp only [lkL]; rw [ih, List.length_set]
theorem spec_lk (l : List S30) (hl : inv6 l) (s : List S59) (hs : ∀ j : Nat, j < s.length → okS (rd_T59 s (j : Int)) = true) (hn : s.length ≤ 1048576) : ∀ d (i : Nat) k (x : List S30), i + d = s.length → d < k → x.length = 6 → spec_Lock.l0 k l s x (i : Int) = some (if okL l s i d = true then (lkL l s i d x, true) else (l, false)) := by
  have hl6 := hl.1
  intro d
  induction d with
  | zero =>
    intro i k x hd hk hx
    obtain ⟨k, rfl⟩ : ∃ q, k = q + 1 := ⟨k - 1, by omega⟩
    simp only [spec_Lock.l0]
    rw [if_neg (by omega)]
    simp [okL, lkL]
  | succ d ih =>
    intro i k x hd hk hx
    obtain ⟨k, rfl⟩ : ∃ q, k = q + 1 := ⟨k - 1, by omega⟩
    have ho := okS_slot (hs i (by omega))
    have hh := hl.2 (rd_T59 s (i : Int)).f1
    have ec : ((i + 1 : Nat) : Int) = (i : Int) + 1 := by omega
    have e := ih (i + 1) k (x.set (rd_T59 s (i : Int)).f1.toNat ⟨(rd_T30 l (rd_T59 s (i : Int)).f1).f0 + 1, (rd_T30 x (rd_T59 s (i : Int)).f1).f1⟩) (by omega) (by omega) (by rw [List.length_set]; exact hx)
    rw [ec] at e
    simp only [spec_Lock.l0, if_pos (show (i : Int) < (s.length : Int) by omega), if_pos (show (0 : Int) ≤ (i : Int) by omega), if_pos ho.1, if_pos (show (rd_T59 s (i : Int)).f1 < (l.length : Int) by omega), if_pos (show (rd_T59 s (i : Int)).f1 < (x.length : Int) by omega), spec_ver _ hh, spec_locked, Option.bind_some, wrap_of (x := (i : Int) + 1) (by omega) (by omega), wrap_of (x := (rd_T30 l (rd_T59 s (i : Int)).f1).f0 + 1) (by omega) (by omega), copy_ok l (by omega), e, okL, lkL]
    by_cases h1 : (rd_T30 l (rd_T59 s (i : Int)).f1).f0 % 2 = 1
    · have h1' : ¬ (rd_T30 l (rd_T59 s (i : Int)).f1).f0 % 2 = 0 := by omega
      simp [hh, h1]
    · have h1' : (rd_T30 l (rd_T59 s (i : Int)).f1).f0 % 2 = 0 := by omega
      by_cases h2 : (rd_T30 l (rd_T59 s (i : Int)).f1).f0 / 4 = (rd_T59 s (i : Int)).f4 <;> simp [h1', h2]
theorem impl_lk1 (l : List S30) (hl : inv6 l) (s : List S59) (hs : ∀ j : Nat, j < s.length → okS (rd_T59 s (j : Int)) = true) (hn : s.length ≤ 1048576) : ∀ d (i : Nat) k, i + d = s.length → d < k → impl_lock.l0 k l s s (s.length : Int) (i : Int) = if okL l s i d = true then impl_lock.l1 (k - d - 1) l s (s.length : Int) 0 else some (false, l) := by
  have hl6 := hl.1
  intro d
  induction d with
  | zero =>
    intro i k hd hk
    obtain ⟨k, rfl⟩ : ∃ q, k = q + 1 := ⟨k - 1, by omega⟩
    simp only [impl_lock.l0]
    rw [if_neg (by omega)]
    simp [okL]
  | succ d ih =>
    intro i k hd hk
    obtain ⟨k, rfl⟩ : ∃ q, k = q + 1 := ⟨k - 1, by omega⟩
    have ho := okS_slot (hs i (by omega))
    have hh := hl.2 (rd_T59 s (i : Int)).f1
    have ec : ((i + 1 : Nat) : Int) = (i : Int) + 1 := by omega
    have ek : k + 1 - (d + 1) - 1 = k - d - 1 := by omega
    have e := ih (i + 1) k (by omega) (by omega)
    rw [ec] at e
    simp only [impl_lock.l0, if_pos (show (i : Int) < (s.length : Int) by omega), if_pos (show (0 : Int) ≤ (i : Int) by omega), if_pos ho.1, if_pos (show (rd_T59 s (i : Int)).f1 < (l.length : Int) by omega), quarter _ hh.1 hh.2, and1, wrap_of (x := (i : Int) + 1) (by omega) (by omega), e, okL, ek]
    by_cases h1 : (rd_T30 l (rd_T59 s (i : Int)).f1).f0 % 2 = 0 <;> by_cases h2 : (rd_T30 l (rd_T59 s (i : Int)).f1).f0 / 4 = (rd_T59 s (i : Int)).f4 <;> simp [h1, h2]
theorem impl_lk2 (l : List S30) (hl : inv6 l) (s : List S59) (hs : ∀ j : Nat, j < s.length → okS (rd_T59 s (j : Int)) = true) (hn : s.length ≤ 1048576) : ∀ d (i : Nat) k (x : List S30), i + d = s.length → d < k → okL l s i d = true → x.length = 6 → (∀ j : Int, (rd_T30 x j).f0 / 2 = (rd_T30 l j).f0 / 2) → impl_lock.l1 k x s (s.length : Int) (i : Int) = some (true, lkL l s i d x) := by
  intro d
  induction d with
  | zero =>
    intro i k x hd hk _ hx hj
    obtain ⟨k, rfl⟩ : ∃ q, k = q + 1 := ⟨k - 1, by omega⟩
    simp only [impl_lock.l1]
    rw [if_neg (by omega)]
    rfl
  | succ d ih =>
    intro i k x hd hk hok hx hj
    obtain ⟨k, rfl⟩ : ∃ q, k = q + 1 := ⟨k - 1, by omega⟩
    have ho := okS_slot (hs i (by omega))
    have hh := hl.2 (rd_T59 s (i : Int)).f1
    have hq := hj (rd_T59 s (i : Int)).f1
    have ec : ((i + 1 : Nat) : Int) = (i : Int) + 1 := by omega
    simp only [okL, Bool.and_eq_true, decide_eq_true_eq] at hok
    have eo : Go.bits .or .i64 (rd_T30 x (rd_T59 s (i : Int)).f1).f0 1 = (rd_T30 l (rd_T59 s (i : Int)).f1).f0 + 1 := by
      rw [or1 _ (by omega) (by omega)]; omega
    have e := ih (i + 1) k (x.set (rd_T59 s (i : Int)).f1.toNat ⟨(rd_T30 l (rd_T59 s (i : Int)).f1).f0 + 1, (rd_T30 x (rd_T59 s (i : Int)).f1).f1⟩) (by omega) (by omega) hok.2 (by rw [List.length_set]; exact hx) (fun j => by
      rw [rd30_set_if _ _ _ _ (by omega)]
      by_cases hjj : j.toNat = (rd_T59 s (i : Int)).f1.toNat
      · rw [if_pos hjj]
        have er : rd_T30 l j = rd_T30 l (rd_T59 s (i : Int)).f1 := by unfold rd_T30; rw [hjj]
        rw [er]
        show ((rd_T30 l (rd_T59 s (i : Int)).f1).f0 + 1) / 2 = _
        have := hok.1.1
        omega
      · rw [if_neg hjj]; exact hj j)
    rw [ec] at e
    simp only [impl_lock.l1, if_pos (show (i : Int) < (s.length : Int) by omega), if_pos (show (0 : Int) ≤ (i : Int) by omega), if_pos ho.1, if_pos (show (rd_T59 s (i : Int)).f1 < (x.length : Int) by omega), eo, wrap_of (x := (i : Int) + 1) (by omega) (by omega), e, lkL]
theorem new_ok (l : List Int) (hl : l.length ≤ maxLen) (k : Nat) (hk : l.length < k) : ∃ h, spec_l1New.f k l = some (l, 0, h) := by
  unfold maxLen at hl
  obtain ⟨r, ⟨h, rfl⟩, e⟩ := loop_inv (fun k (s : Int × Int) => spec_l1New.l0 k l s.1 s.2) (fun i s => s.2 = (i : Int)) (fun r => ∃ h, r = (l, 0, h)) l.length 0
    (fun k i s _ hi hP => .inl ⟨(Go.bits .and .i64 (wrap64 ((wrap64 ((wrap64 (s.1 * 137)) + (wrap64 (rd l s.2)))) + 11)) 1073741823, wrap64 (s.2 + 1)), by
      show wrap64 (s.2 + 1) = ((i + 1 : Nat) : Int)
      rw [hP, wrap_of (by omega) (by omega)]; omega, by
      show spec_l1New.l0 (k + 1) l s.1 s.2 = _
      simp only [spec_l1New.l0]
      rw [if_pos (by omega), if_pos (by omega)]⟩)
    (fun k s _ hP => ⟨_, ⟨s.1, rfl⟩, by
      show spec_l1New.l0 (k + 1) l s.1 s.2 = _
      simp only [spec_l1New.l0]
      rw [if_neg (by omega)]⟩) l.length 0 k (wrap64 (101027 + (l.length : Int)), 0) (by omega) (by omega) rfl
  exact ⟨h, e⟩
theorem byte_ok (l : List Int) (hl : l.length ≤ maxLen) (i h : Int) (hi : 0 ≤ i) : Ok (fun r : Int × Int × Int => 0 ≤ r.1 ∧ r.1 ≤ 255 ∧ 0 ≤ r.2.1) (spec_l1Byte.f l i h) := by
  unfold maxLen at hl
  unfold spec_l1Byte.f
  refine Ok.ite (fun h1 => Ok.pos hi (Ok.ret ?_)) (fun _ => Ok.ret ?_)
  · simp only [and255]
    refine ⟨by omega, by omega, ?_⟩
    rw [wrap_of (by omega) (by omega)]; omega
  · simp only [and255]
    exact ⟨by omega, by omega, hi⟩
theorem below_ok (l : List Int) (hl : l.length ≤ maxLen) (i h : Int) (hi : 0 ≤ i) (n : Int) : Ok (fun r : Int × Int × Int => 0 ≤ r.1 ∧ (0 < n → r.1 < n) ∧ (n ≤ 0 → r.1 = 0) ∧ 0 ≤ r.2.1) (spec_l1Below.f l i h n) := by
  unfold spec_l1Below.f
  refine Ok.ite (fun h1 => Ok.ret ⟨by omega, by omega, by omega, hi⟩) (fun h1 => Ok.ite (fun h2 => ?_) (fun h2 => ?_))
  · refine Ok.bind (byte_ok l hl i h hi) fun r hr => Ok.neg (by omega) (Ok.ret ?_)
    obtain ⟨b, i', h'⟩ := r
    obtain ⟨q1, q2, q3⟩ := hr
    dsimp only at *
    rw [Int.tmod_eq_emod_of_nonneg q1]
    exact ⟨Int.emod_nonneg _ (by omega), fun _ => Int.emod_lt_of_pos _ (by omega), by omega, q3⟩
  · refine Ok.bind (byte_ok l hl i h hi) fun r1 h1' => Ok.bind (byte_ok l hl r1.2.1 r1.2.2 h1'.2.2) fun r2 h2' => Ok.bind (byte_ok l hl r2.2.1 r2.2.2 h2'.2.2) fun r3 h3' => Ok.bind (byte_ok l hl r3.2.1 r3.2.2 h3'.2.2) fun r4 h4' => Ok.neg (by omega) (Ok.ret ?_)
    obtain ⟨b1, i1, h1⟩ := r1
    obtain ⟨b2, i2, h2⟩ := r2
    obtain ⟨b3, i3, h3⟩ := r3
    obtain ⟨b4, i4, h4⟩ := r4
    obtain ⟨p1, p2, p3⟩ := h1'
    obtain ⟨q1, q2, q3⟩ := h2'
    obtain ⟨u1, u2, u3⟩ := h3'
    obtain ⟨v1, v2, v3⟩ := h4'
    dsimp only at *
    rw [wrap_of (x := b1 * 16777216) (by omega) (by omega), wrap_of (x := b2 * 65536) (by omega) (by omega), wrap_of (x := b1 * 16777216 + b2 * 65536) (by omega) (by omega), wrap_of (x := b3 * 256) (by omega) (by omega), wrap_of (x := b1 * 16777216 + b2 * 65536 + b3 * 256) (by omega) (by omega), wrap_of (x := b1 * 16777216 + b2 * 65536 + b3 * 256 + b4) (by omega) (by omega), Int.tmod_eq_emod_of_nonneg (by omega)]
    exact ⟨Int.emod_nonneg _ (by omega), fun _ => Int.emod_lt_of_pos _ (by omega), by omega, v3⟩
theorem once_ok (l : List Int) (hl : l.length ≤ maxLen) (i h : Int) (hi : 0 ≤ i) (n : Int) : Ok (fun r : Bool × Int × Int => 0 ≤ r.2.1) (spec_l1Once.f l i h n) := by
  unfold spec_l1Once.f
  exact Ok.bind (below_ok l hl i h hi n) fun r hr => Ok.ret hr.2.2.2
theorem drawHead_ok (l : List Int) (hl : l.length ≤ maxLen) (i h : Int) (hi : 0 ≤ i) : Ok (fun r : Int × Int × Int => 0 ≤ r.2.1) (spec_l1DrawHead.f l i h) := by
  unfold spec_l1DrawHead.f
  refine Ok.bind (once_ok l hl i h hi 10) fun r2 h2 => Ok.ite (fun _ => ?_) (fun _ => ?_)
  · (try simp only [Option.bind_some])
    refine Ok.bind (below_ok l hl _ _ h2 7) fun r3 h3 => ?_
    exact Ok.pos h3.1 (Ok.pos (by have := h3.2.1 (by decide); simp; omega) (Ok.ret h3.2.2.2))
  · refine Ok.bind (below_ok l hl _ _ h2 60) fun r3 h3 => ?_
    exact Ok.ret h3.2.2.2
theorem head_ok (a : Int) (u l : Bool) : Ok (fun _ => True) (spec_l1Head.f a u l) := by
  unfold spec_l1Head.f
  exact Ok.ite (fun _ => Ok.ite (fun _ => Ok.ret trivial) fun _ => Ok.ret trivial) fun _ => Ok.ite (fun _ => Ok.ret trivial) fun _ => Ok.ret trivial
theorem from_ok (l : List Int) (hl : l.length ≤ maxLen) (i h : Int) (hi : 0 ≤ i) (a b : Int) : Ok (fun r : Int × Int × Int => 0 ≤ r.2.1) (spec_l1From.f l i h a b) := by
  unfold spec_l1From.f
  exact Ok.bind (below_ok l hl i h hi _) fun r hr => Ok.ret hr.2.2.2
theorem drawCells_from (l : List Int) (hl : l.length ≤ maxLen) : ∀ d (i : Nat) k (x : List S30) (j h : Int), i + d = 6 → d < k → x.length = 6 → 0 ≤ j → Ok (fun r : List S30 × Int × Int => r.1.length = 6 ∧ 0 ≤ r.2.1) (spec_l3Draw.l0 k x (i : Int) l j h) := by
  intro d
  induction d with
  | zero =>
    intro i k x j h hd hk hx hj
    obtain ⟨k, rfl⟩ : ∃ q, k = q + 1 := ⟨k - 1, by omega⟩
    simp only [spec_l3Draw.l0]
    exact Ok.neg (by omega) (Ok.ret ⟨hx, hj⟩)
  | succ d ih =>
    intro i k x j h hd hk hx hj
    obtain ⟨k, rfl⟩ : ∃ q, k = q + 1 := ⟨k - 1, by omega⟩
    simp only [spec_l3Draw.l0]
    have ew : wrap64 ((i : Int) + 1) = ((i + 1 : Nat) : Int) := by rw [wrap_of (by omega) (by omega)]; omega
    refine Ok.pos (by omega) (Ok.bind (once_ok l hl j h hj 2) fun r1 h1 => Ok.bind (below_ok l hl _ _ h1 6) fun r2 h2 => Ok.bind (once_ok l hl _ _ h2.2.2.2 5) fun r3 h3 => Ok.bind (head_ok _ _ _) fun r4 _ => Ok.pos (by omega) ?_)
    (try simp only [Option.bind_some])
    refine Ok.ite (fun _ => Ok.bind (from_ok l hl _ _ h3 (-50) 50) fun r5 h5 => ?_) (fun _ => ?_)
    · rw [ew]
      exact ih (i + 1) k _ _ _ (by omega) (by omega) (by simp [hx]) h5
    · rw [ew]
      exact ih (i + 1) k _ _ _ (by omega) (by omega) (by simp [hx]) h3
theorem drawCells_ok (l : List Int) (hl : l.length ≤ maxLen) (i h : Int) (hi : 0 ≤ i) (k : Nat) (hk : 6 < k) : Ok (fun r : List S30 × Int × Int => r.1.length = 6 ∧ 0 ≤ r.2.1) (spec_l3Draw.f k l i h) := by
  unfold spec_l3Draw.f spec_NewCells.f
  rw [if_pos (by decide)]
  exact drawCells_from l hl 6 0 k _ _ _ (by omega) hk (by simp) hi
theorem drawAny_ok (l : List Int) (hl : l.length ≤ maxLen) (i h : Int) (hi : 0 ≤ i) (k : Nat) (hk : 6 < k) : Ok (fun r : List S30 × Int × Int => r.1.length ≤ 6 ∧ 0 ≤ r.2.1) (spec_l3DrawAny.f k l i h) := by
  unfold spec_l3DrawAny.f
  refine Ok.bind (drawCells_ok l hl i h hi k hk) fun r hr => Ok.bind (once_ok l hl _ _ hr.2 12) fun r2 h2 => Ok.ite (fun _ => Ok.bind (below_ok l hl _ _ h2 6) fun r3 h3 => Ok.bind (below_ok l hl _ _ h3.2.2.2 3) fun r4 h4 => ?_) (fun _ => Ok.ret ⟨by show r.1.length ≤ 6; omega, h2⟩)
  have h36 := h3.2.1 (by decide)
  refine Ok.ite (fun _ => Ok.bind (drawHead_ok l hl _ _ h4.2.2.2) fun r5 h5 => Ok.pos h3.1 (Ok.pos (by omega) (Ok.ret ⟨by simp; omega, h5⟩))) (fun _ => Ok.ite (fun _ => ?_) (fun _ => Ok.ite (fun _ => Ok.pos (by omega) (Ok.ret ⟨by simp; omega, h4.2.2.2⟩)) (fun _ => Ok.ret ⟨by show r.1.length ≤ 6; omega, h4.2.2.2⟩)))
  (try simp only [Option.bind_some])
  exact Ok.bind (below_ok l hl _ _ h4.2.2.2 4) fun r5 h5 => Ok.pos h5.1 (Ok.pos (by have := h5.2.1 (by decide); simp; omega) (Ok.pos h3.1 (Ok.pos (by omega) (Ok.ret ⟨by simp; omega, h5.2.2.2⟩))))
theorem slot_any (a : Int) : Ok (fun r => r = true → 0 ≤ a ∧ a ≤ 5) (spec_l1Slot.f a) :=
  Ok.eq (show spec_l1Slot.f a = some (decide (0 ≤ a ∧ a ≤ 5)) by simp only [spec_l1Slot.f, in_, Option.bind_some]) (fun h => of_decide_eq_true h)
theorem headok_any (a : Int) : Ok (fun _ => True) (spec_HeadOk.f a) :=
  Ok.eq (show spec_HeadOk.f a = some (decide (0 ≤ a ∧ a ≤ 4000003)) by simp only [spec_HeadOk.f, in_, Option.bind_some]) trivial
theorem ver_any (a : Int) : Ok (fun _ => True) (spec_Version.f a) := by
  unfold spec_Version.f
  exact Ok.bind (headok_any a) fun r _ => Ok.ite (fun _ => Ok.ret trivial) (fun _ => Ok.ret trivial)
theorem drawSet_ok (l : List Int) (hl : l.length ≤ maxLen) (i h : Int) (hi : 0 ≤ i) (a : Int) : Ok (fun r : Int × Int × Int × Bool × Int × Int × Int => 0 ≤ r.2.2.2.2.2.1) (spec_l2DrawSet.f l i h a) := by
  unfold spec_l2DrawSet.f
  refine Ok.bind (below_ok l hl i h hi 6) fun r1 h1 => Ok.bind (from_ok l hl _ _ h1.2.2.2 (-50) 50) fun r2 h2 => Ok.bind (once_ok l hl _ _ h2 2) fun r3 h3 => Ok.bind (below_ok l hl _ _ h3 6) fun r4 h4 => Ok.bind (once_ok l hl _ _ h4.2.2.2 30) fun r5 h5 => Ok.ite (fun _ => Ok.bind (below_ok l hl _ _ h5 4) fun r6 h6 => ?_) (fun _ => Ok.ret h5)
  refine Ok.ite (fun _ => ?_) (fun _ => Ok.ite (fun _ => ?_) (fun _ => Ok.ite (fun _ => ?_) (fun _ => Ok.ite (fun _ => ?_) (fun _ => Ok.ret h6.2.2.2))))
  all_goals (try simp only [Option.bind_some])
  · exact Ok.bind (below_ok l hl _ _ h6.2.2.2 4) fun r7 h7 => Ok.pos h7.1 (Ok.pos (by have := h7.2.1 (by decide); simp; omega) (Ok.ret h7.2.2.2))
  · exact Ok.bind (below_ok l hl _ _ h6.2.2.2 2) fun r7 h7 => Ok.pos h7.1 (Ok.pos (by have := h7.2.1 (by decide); simp; omega) (Ok.ret h7.2.2.2))
  · exact Ok.bind (below_ok l hl _ _ h6.2.2.2 4) fun r7 h7 => Ok.pos h7.1 (Ok.pos (by have := h7.2.1 (by decide); simp; omega) (Ok.ret h7.2.2.2))
  · exact Ok.bind (below_ok l hl _ _ h6.2.2.2 3) fun r7 h7 => Ok.pos h7.1 (Ok.pos (by have := h7.2.1 (by decide); simp; omega) (Ok.ret h7.2.2.2))
theorem drawSets_from (l : List Int) (hl : l.length ≤ maxLen) (a : Int) : ∀ d (i : Nat) k (x : List S59) (j h : Int), i + d = 6 → d < k → x.length ≤ i → 0 ≤ j → Ok (fun r : List S59 × Int × Int => r.1.length ≤ 7 ∧ 0 ≤ r.2.1) (spec_l2DrawSets.l0 k a x (i : Int) l j h) := by
  intro d
  induction d with
  | zero =>
    intro i k x j h hd hk hx hj
    obtain ⟨k, rfl⟩ : ∃ q, k = q + 1 := ⟨k - 1, by omega⟩
    simp only [spec_l2DrawSets.l0]
    refine Ok.neg (by omega) (Ok.bind (once_ok l hl j h hj 20) fun r1 h1 => Ok.ite (fun _ => Ok.ite (fun hgt => Ok.pos (by omega) (Ok.pos (by omega) (Ok.ret ⟨?_, h1⟩))) (fun _ => Ok.ret ⟨?_, h1⟩)) (fun _ => Ok.ret ⟨?_, h1⟩))
    · simp; omega
    · show x.length ≤ 7; omega
    · show x.length ≤ 7; omega
  | succ d ih =>
    intro i k x j h hd hk hx hj
    obtain ⟨k, rfl⟩ : ∃ q, k = q + 1 := ⟨k - 1, by omega⟩
    have ew : wrap64 ((i : Int) + 1) = ((i + 1 : Nat) : Int) := by rw [wrap_of (by omega) (by omega)]; omega
    simp only [spec_l2DrawSets.l0, ew]
    refine Ok.pos (by omega) (Ok.bind (once_ok l hl j h hj 3) fun r1 h1 => Ok.ite (fun _ => Ok.bind (drawSet_ok l hl _ _ h1 a) fun r2 h2 => Ok.bind (slot_any _) fun r3 _ => Ok.ite (fun _ => Ok.pos (by omega) ?_) (fun _ => Ok.pos (by omega) ?_)) (fun _ => ?_))
    · exact ih (i + 1) k _ _ _ (by omega) (by omega) (by simp; omega) h2
    · exact ih (i + 1) k _ _ _ (by omega) (by omega) (by simp; omega) h2
    · exact ih (i + 1) k _ _ _ (by omega) (by omega) (by omega) h1
theorem draw3Sets_from (l : List Int) (hl : l.length ≤ maxLen) (c : List S30) : ∀ d (i : Nat) k (x : List S59) (j h : Int), i + d = x.length → d < k → x.length ≤ 7 → 0 ≤ j → Ok (fun r : List S59 × Int × Int => r.1.length ≤ 7 ∧ 0 ≤ r.2.1) (spec_l3DrawSets.l0 k c x (i : Int) l j h) := by
  intro d
  induction d with
  | zero =>
    intro i k x j h hd hk hx hj
    obtain ⟨k, rfl⟩ : ∃ q, k = q + 1 := ⟨k - 1, by omega⟩
    simp only [spec_l3DrawSets.l0]
    exact Ok.neg (by omega) (Ok.ret ⟨by show x.length ≤ 7; omega, hj⟩)
  | succ d ih =>
    intro i k x j h hd hk hx hj
    obtain ⟨k, rfl⟩ : ∃ q, k = q + 1 := ⟨k - 1, by omega⟩
    have ew : wrap64 ((i : Int) + 1) = ((i + 1 : Nat) : Int) := by rw [wrap_of (by omega) (by omega)]; omega
    simp only [spec_l3DrawSets.l0, ew]
    refine Ok.pos (by omega) (Ok.pos (by omega) (Ok.bind (slot_any _) fun r1 h1 => Ok.ite (fun hs => Ok.ite (fun _ => Ok.pos (h1 hs).1 (Ok.bind (headok_any _) fun r2 _ => Ok.ite (fun _ => Ok.bind (once_ok l hl j h hj 8) fun r3 h3 => Ok.ite (fun _ => ?_) (fun _ => Ok.bind (ver_any _) fun r4 _ => ?_)) (fun _ => ?_))) (fun _ => ?_)) (fun _ => ?_)))
    · exact ih (i + 1) k x _ _ (by omega) (by omega) hx h3
    · exact ih (i + 1) k _ _ _ (by rw [List.length_set]; omega) (by omega) (by rw [List.length_set]; exact hx) h3
    · exact ih (i + 1) k x _ _ (by omega) (by omega) hx hj
    · exact ih (i + 1) k x _ _ (by omega) (by omega) hx hj
    · exact ih (i + 1) k x _ _ (by omega) (by omega) hx hj
theorem draw3Sets_ok (l : List Int) (hl : l.length ≤ maxLen) (c : List S30) (i h : Int) (hi : 0 ≤ i) (k : Nat) (hk : 10 < k) : Ok (fun r : List S59 × Int × Int => r.1.length ≤ 7 ∧ 0 ≤ r.2.1) (spec_l3DrawSets.f k l i h c) := by
  unfold spec_l3DrawSets.f spec_l2DrawSets.f
  exact Ok.bind (drawSets_from l hl 1 6 0 k [] i h (by omega) (by omega) (by simp) hi) fun r hr => draw3Sets_from l hl c r.1.length 0 k r.1 _ _ (by omega) (by have := hr.1; omega) hr.1 hr.2
theorem like_ok (l : List S30) (hl : l.length ≤ 9000000000000) (k : Nat) (hk : l.length < k) : laws_likeCells.f k l l = some true := by
  unfold laws_likeCells.f
  rw [if_pos rfl]
  exact loop_to (fun k (s : Int) => laws_likeCells.l0 k l l s) (fun i s => s = (i : Int)) l.length 0 true
    (fun k i s hk hi hP => ⟨wrap64 (s + 1), by rw [hP, wrap_of (by omega) (by omega)]; omega, by
      show laws_likeCells.l0 (k + 1) l l s = _
      simp only [laws_likeCells.l0]
      rw [if_pos (by omega), if_pos (by omega), if_pos (by omega), if_neg (by simp)]⟩)
    (fun k s _ hP => by
      show laws_likeCells.l0 (k + 1) l l s = _
      simp only [laws_likeCells.l0]
      rw [if_neg (by omega)]) 0 k 0 (by omega) (by omega) rfl
theorem like_nil (c : List S30) (k : Nat) (hk : 0 < k) : ∃ b, laws_likeCells.f k [] c = some b := by
  unfold laws_likeCells.f
  by_cases h : (([] : List S30).length : Int) = (c.length : Int)
  · rw [if_pos h]
    obtain ⟨k, rfl⟩ : ∃ q, k = q + 1 := ⟨k - 1, by omega⟩
    simp only [laws_likeCells.l0]
    rw [if_neg (by simp)]
    exact ⟨_, rfl⟩
  · rw [if_neg h]
    exact ⟨_, rfl⟩
theorem lockLoop_ok (l : List Int) (hl : l.length ≤ maxLen) : ∀ d (i : Nat) k (x : List S30) (j h : Int), i + d = x.length → d + 20 < k → x.length ≤ 6 → 0 ≤ j → Ok (fun r : List S30 × List S59 => r.1.length ≤ 6 ∧ r.2.length ≤ 7) (spec_DrawLock.l0 k x (i : Int) l j h) := by
  intro d
  induction d with
  | zero =>
    intro i k x j h hd hk hx hj
    obtain ⟨k, rfl⟩ : ∃ q, k = q + 1 := ⟨k - 1, by omega⟩
    simp only [spec_DrawLock.l0]
    exact Ok.neg (by omega) (Ok.bind (draw3Sets_ok l hl x j h hj k (by omega)) fun r hr => Ok.ret ⟨hx, hr.1⟩)
  | succ d ih =>
    intro i k x j h hd hk hx hj
    obtain ⟨k, rfl⟩ : ∃ q, k = q + 1 := ⟨k - 1, by omega⟩
    have ew : wrap64 ((i : Int) + 1) = ((i + 1 : Nat) : Int) := by rw [wrap_of (by omega) (by omega)]; omega
    simp only [spec_DrawLock.l0, ew]
    refine Ok.pos (by omega) (Ok.pos (by omega) (Ok.bind (headok_any _) fun r _ => Ok.ite (fun _ => ?_) (fun _ => ?_)))
    · exact ih (i + 1) k _ _ _ (by rw [List.length_set]; omega) (by omega) (by rw [List.length_set]; exact hx) hj
    · exact ih (i + 1) k _ _ _ (by omega) (by omega) hx hj
theorem drawLock_ok (l : List Int) (hl : l.length ≤ maxLen) (k : Nat) (hk : l.length < k) (hk2 : 40 < k) : Ok (fun r : List S30 × List S59 => r.1.length ≤ 6 ∧ r.2.length ≤ 7) (spec_DrawLock.f k l) := by
  unfold spec_DrawLock.f
  obtain ⟨h, e⟩ := new_ok l hl k hk
  rw [e]
  simp only [Option.bind_some]
  exact Ok.bind (drawAny_ok l hl 0 h (Int.le_refl 0) k (by omega)) fun r1 h1 => Ok.bind (once_ok l hl _ _ h1.2 2) fun r2 h2 => Ok.ite (fun _ => lockLoop_ok l hl r1.1.length 0 k r1.1 _ _ (by omega) (by have := h1.1; omega) h1.1 h2) (fun _ => Ok.bind (draw3Sets_ok l hl r1.1 _ _ h2 k (by omega)) fun r hr => Ok.ret ⟨h1.1, hr.1⟩)
def inS (s : List S59) (i d n : Nat) : Prop := ∃ t : Nat, i ≤ t ∧ t < i + d ∧ (rd_T59 s (t : Int)).f1.toNat = n
theorem rd30_nat (l : List S30) {i j : Int} (h : i.toNat = j.toNat) : rd_T30 l i = rd_T30 l j := by unfold rd_T30; rw [h]
theorem okL_at (l : List S30) (s : List S59) : ∀ d i, okL l s i d = true → ∀ t : Nat, i ≤ t → t < i + d → (rd_T30 l (rd_T59 s (t : Int)).f1).f0 % 2 = 0 := by
  intro d
  induction d with
  | zero => intro i _ t h1 h2; omega
  | succ d ih =>
    intro i h t h1 h2
    simp only [okL, Bool.and_eq_true, decide_eq_true_eq] at h
    by_cases ht : t = i
    · subst ht; exact h.1.1
    · exact ih (i + 1) h.2 t (by omega) (by omega)
theorem lkL_at (l : List S30) (s : List S59) (hs : ∀ j : Nat, j < s.length → okS (rd_T59 s (j : Int)) = true) : ∀ d i x, i + d ≤ s.length → x.length = 6 → ∀ j : Int, (rd_T30 (lkL l s i d x) j).f1 = (rd_T30 x j).f1 ∧ (inS s i d j.toNat → (rd_T30 (lkL l s i d x) j).f0 = (rd_T30 l j).f0 + 1) ∧ (¬ inS s i d j.toNat → (rd_T30 (lkL l s i d x) j).f0 = (rd_T30 x j).f0) := by
  intro d
  induction d with
  | zero =>
    intro i x _ hx j
    exact ⟨rfl, fun ⟨t, h1, h2, _⟩ => by omega, fun _ => rfl⟩
  | succ d ih =>
    intro i x hd hx j
    have ho := okS_slot (hs i (by omega))
    obtain ⟨a1, a2, a3⟩ := ih (i + 1) (x.set (rd_T59 s (i : Int)).f1.toNat ⟨(rd_T30 l (rd_T59 s (i : Int)).f1).f0 + 1, (rd_T30 x (rd_T59 s (i : Int)).f1).f1⟩) (by omega) (by rw [List.length_set]; exact hx) j
    rw [rd30_set_if _ _ _ _ (by omega)] at a1 a3
    simp only [lkL]
    by_cases hj : j.toNat = (rd_T59 s (i : Int)).f1.toNat
    · rw [if_pos hj] at a1 a3
      refine ⟨by rw [a1, rd30_nat x hj], fun _ => ?_, fun hn => absurd ⟨i, by omega, by omega, hj.symm⟩ hn⟩
      by_cases hi : inS s (i + 1) d j.toNat
      · exact a2 hi
      · rw [a3 hi, rd30_nat l hj]
    · rw [if_neg hj] at a1 a3
      refine ⟨a1, fun ⟨t, h1, h2, h3⟩ => ?_, fun hn => a3 (fun ⟨t, h1, h2, h3⟩ => hn ⟨t, by omega, by omega, h3⟩)⟩
      by_cases ht : t = i
      · subst ht; exact absurd h3.symm hj
      · exact a2 ⟨t, by omega, by omega, h3⟩
theorem unl_from (l : List S30) (hl : inv6 l) (s : List S59) (hs : ∀ j : Nat, j < s.length → okS (rd_T59 s (j : Int)) = true) (hn : s.length ≤ 1048576) : ∀ d (i : Nat) k (x : List S30), i + d = s.length → d < k → okL l s i d = true → x.length = 6 → (∀ j : Int, (rd_T30 x j).f1 = (rd_T30 l j).f1 ∧ ((rd_T30 x j).f0 = (rd_T30 l j).f0 ∨ (inS s i d j.toNat ∧ (rd_T30 x j).f0 = (rd_T30 l j).f0 + 1))) → ∃ y, impl_unlock.l0 k x s (s.length : Int) (i : Int) = some y ∧ y.length = 6 ∧ ∀ j : Int, rd_T30 y j = rd_T30 l j := by
  intro d
  induction d with
  | zero =>
    intro i k x hd hk _ hx hj
    obtain ⟨k, rfl⟩ : ∃ q, k = q + 1 := ⟨k - 1, by omega⟩
    simp only [impl_unlock.l0]
    rw [if_neg (by omega)]
    refine ⟨x, rfl, hx, fun j => ?_⟩
    obtain ⟨h1, h2⟩ := hj j
    have h3 : (rd_T30 x j).f0 = (rd_T30 l j).f0 := by
      rcases h2 with h2 | ⟨⟨t, h4, h5, _⟩, _⟩
      · exact h2
      · omega
    cases hx1 : rd_T30 x j
    cases hl1 : rd_T30 l j
    rw [hx1, hl1] at h1 h3
    simp only at h1 h3
    rw [h1, h3]
  | succ d ih =>
    intro i k x hd hk hok hx hj
    obtain ⟨k, rfl⟩ : ∃ q, k = q + 1 := ⟨k - 1, by omega⟩
    have ho := okS_slot (hs i (by omega))
    have hh := hl.2 (rd_T59 s (i : Int)).f1
    obtain ⟨hq1, hq2⟩ := hj (rd_T59 s (i : Int)).f1
    simp only [okL, Bool.and_eq_true, decide_eq_true_eq] at hok
    obtain ⟨⟨hok1, hok2⟩, hok3⟩ := hok
    have hx2 : (rd_T30 x (rd_T59 s (i : Int)).f1).f0 / 2 = (rd_T30 l (rd_T59 s (i : Int)).f1).f0 / 2 := by
      rcases hq2 with h | ⟨_, h⟩ <;> rw [h] <;> omega
    have e1 : wrap64 (Int.tdiv (rd_T30 x (rd_T59 s (i : Int)).f1).f0 4) = (rd_T59 s (i : Int)).f4 := by
      rw [Int.tdiv_eq_ediv_of_nonneg (by omega), wrap_of (by omega) (by omega)]; omega
    have e2 : Go.bits .andNot .i64 (rd_T30 x (rd_T59 s (i : Int)).f1).f0 1 = (rd_T30 l (rd_T59 s (i : Int)).f1).f0 := by
      rw [andNot1 _ (by omega) (by omega)]; omega
    have e := ih (i + 1) k (x.set (rd_T59 s (i : Int)).f1.toNat ⟨(rd_T30 l (rd_T59 s (i : Int)).f1).f0, (rd_T30 x (rd_T59 s (i : Int)).f1).f1⟩) (by omega) (by omega) hok3 (by rw [List.length_set]; exact hx) (fun j => by
      rw [rd30_set_if _ _ _ _ (by omega)]
      by_cases hjj : j.toNat = (rd_T59 s (i : Int)).f1.toNat
      · rw [if_pos hjj, rd30_nat l hjj]
        exact ⟨hq1, .inl rfl⟩
      · rw [if_neg hjj]
        obtain ⟨b1, b2⟩ := hj j
        refine ⟨b1, ?_⟩
        rcases b2 with b2 | ⟨⟨t, c1, c2, c3⟩, b3⟩
        · exact .inl b2
        · refine .inr ⟨⟨t, ?_, by omega, c3⟩, b3⟩
          by_cases ht : t = i
          · subst ht; exact absurd c3.symm hjj
          · omega)
    rw [show ((i + 1 : Nat) : Int) = (i : Int) + 1 from by omega] at e
    simp only [impl_unlock.l0, if_pos (show (i : Int) < (s.length : Int) by omega), if_pos (show (0 : Int) ≤ (i : Int) by omega), if_pos ho.1, if_pos (show (rd_T59 s (i : Int)).f1 < (x.length : Int) by omega), e1, e2, if_true, wrap_of (x := (i : Int) + 1) (by omega) (by omega)]
    exact e
theorem ext30 {x y : List S30} (hx : x.length = 6) (hy : y.length = 6) (h : ∀ j : Int, rd_T30 x j = rd_T30 y j) : x = y := by
  apply List.ext_getElem (by omega)
  intro n h1 h2
  have := h (n : Int)
  rw [rd30_get h1, rd30_get h2] at this
  exact this
theorem lkL_cells (l : List S30) (s : List S59) (h : okCs l = true) (hs : ∀ j : Nat, j < s.length → okS (rd_T59 s (j : Int)) = true) (hok : okL l s 0 s.length = true) : okCs (lkL l s 0 s.length l) = true := by
  have h6 := okCs_len h
  have hlen := lkL_len l s s.length 0 l
  unfold okCs
  rw [Bool.and_eq_true, List.all_eq_true]
  refine ⟨decide_eq_true (by omega), fun x hx => ?_⟩
  obtain ⟨n, hn, rfl⟩ := List.mem_iff_getElem.1 hx
  obtain ⟨a1, a2, a3⟩ := lkL_at l s hs s.length 0 l (by omega) h6 (n : Int)
  rw [rd30_get hn, rd30_get (show n < l.length by omega)] at a1 a2 a3
  unfold okCs at h
  rw [Bool.and_eq_true, List.all_eq_true] at h
  have hc := h.2 l[n] (List.getElem_mem _)
  simp only [okC, Bool.and_eq_true, Bool.or_eq_true, decide_eq_true_eq] at hc ⊢
  by_cases hi : inS s 0 s.length (n : Int).toNat
  · have b := a2 hi
    obtain ⟨t, c1, c2, c3⟩ := hi
    have hev := okL_at l s s.length 0 hok t c1 c2
    rw [rd30_nat l (show (rd_T59 s (t : Int)).f1.toNat = ((n : Int)).toNat from c3), rd30_get (show n < l.length by omega)] at hev
    rw [a1, b]
    refine ⟨by omega, hc.2.1, ?_⟩
    rcases hc.2.2 with q | q
    · left; omega
    · right; exact q
  · rw [a1, a3 hi]
    exact hc
/-- What Lock leaves: cells, and whether they are locked. -/
theorem lock_cases (l : List S30) (s : List S59) (hl : l.length ≤ 1048576) (hs : s.length ≤ 1048576) : ∃ r b, (∀ k, 10000000 < k → spec_Lock.f (k + 1) l s = some (r, b) ∧ impl_Lock.f (k + 1) l s = some (r, b)) ∧ ((b = false ∧ (r = l ∨ r = [])) ∨ (b = true ∧ okCs l = true ∧ okSs s 0 s.length = true ∧ okL l s 0 s.length = true ∧ r = lkL l s 0 s.length l)) := by
  have ea : ∀ k, 10000000 < k → spec_Lock.f (k + 1) l s = (if okCs l = true then (if okSs s 0 s.length = true then spec_Lock.l0 k l s l 0 else some ([], false)) else some ([], false)) ∧ impl_Lock.f (k + 1) l s = (if okCs l = true then (if okSs s 0 s.length = true then (impl_lock.l0 k l s s (s.length : Int) 0).bind fun z => some (z.2, z.1) else some ([], false)) else some ([], false)) := fun k hk => by
    simp only [spec_Lock.f, impl_Lock.f, spec_cells l hl (k + 1) (by omega), impl_cells, spec_sets s hs (k + 1) (by omega), impl_sets s hs (k + 1) (by omega), Option.bind_some, spec_Lock.j0, impl_Lock.j0, copy_ok l hl, clone_ok l hl, impl_lock.f]
    by_cases h : okCs l = true <;> by_cases h2 : okSs s 0 s.length = true <;> simp [h, h2]
  by_cases h : okCs l = true
  · by_cases h2 : okSs s 0 s.length = true
    · have hi := inv6_of h
      have hss : ∀ j : Nat, j < s.length → okS (rd_T59 s (j : Int)) = true := fun j hj => okSs_at s s.length 0 h2 j (by omega) (by omega)
      have a1 := fun k hk => spec_lk l hi s hss hs s.length 0 k l (by omega) hk hi.1
      have a2 := fun k hk => impl_lk1 l hi s hss hs s.length 0 k (by omega) hk
      rw [show ((0 : Nat) : Int) = 0 from rfl] at a1 a2
      by_cases h3 : okL l s 0 s.length = true
      · have a3 := fun k hk => impl_lk2 l hi s hss hs s.length 0 k l (by omega) hk h3 hi.1 (fun j => rfl)
        rw [show ((0 : Nat) : Int) = 0 from rfl] at a3
        refine ⟨lkL l s 0 s.length l, true, fun k hk => ?_, .inr ⟨rfl, h, h2, h3, rfl⟩⟩
        rw [(ea k hk).1, (ea k hk).2, if_pos h, if_pos h2, if_pos h, if_pos h2, a1 k (by omega), a2 k (by omega), if_pos h3, if_pos h3, a3 _ (by omega)]
        exact ⟨rfl, rfl⟩
      · refine ⟨l, false, fun k hk => ?_, .inl ⟨rfl, .inl rfl⟩⟩
        rw [(ea k hk).1, (ea k hk).2, if_pos h, if_pos h2, if_pos h, if_pos h2, a1 k (by omega), a2 k (by omega), if_neg h3, if_neg h3]
        exact ⟨rfl, rfl⟩
    · refine ⟨[], false, fun k hk => ?_, .inl ⟨rfl, .inr rfl⟩⟩
      rw [(ea k hk).1, (ea k hk).2]
      simp [h, h2]
  · refine ⟨[], false, fun k hk => ?_, .inl ⟨rfl, .inr rfl⟩⟩
    rw [(ea k hk).1, (ea k hk).2]
    simp [h]
theorem look_locked (r : List S30) (h : okCs r = true) (q : Int) (hq : 0 ≤ q ∧ q ≤ 5) (hl : (rd_T30 r q).f0 % 2 = 1) : impl_Look.f r q = some (0, 0, false) := by
  have h6 := okCs_len h
  simp only [impl_Look.f, impl_cells, h, impl_isSlot.f, within_, Option.bind_some, decide_eq_true hq, if_true, if_pos hq.1, if_pos (show q < (r.length : Int) by omega), and1]
  rw [if_neg (by omega)]
theorem rounds_ok (c r : List S30) (s : List S59) (hs : s.length ≤ 7) (hc : c.length = 6) (hr : okCs r = true) (hlk : ∀ t : Nat, t < s.length → (0 ≤ (rd_T59 s (t : Int)).f1 ∧ (rd_T59 s (t : Int)).f1 ≤ 5) ∧ (rd_T30 r (rd_T59 s (t : Int)).f1).f0 % 2 = 1) (K : Nat) (hun : ∀ k, K < k → impl_Unlock.f k r s = some c) (b : Bool) (hb : b = decide (s.length = 0)) (hK : 100 < K) : ∀ d (i : Nat) k, i + d = s.length → K + d + 5 < k → laws_FnLocks.l0 k c s r b (i : Int) = some true := by
  intro d
  induction d with
  | zero =>
    intro i k hd hk
    obtain ⟨k, rfl⟩ : ∃ q, k = q + 1 := ⟨k - 1, by omega⟩
    simp only [laws_FnLocks.l0]
    have e : (b == ((s.length : Int) == 0)) = true := by
      subst hb
      by_cases h0 : s.length = 0
      · simp [h0]
      · have h0' : ¬ ((s.length : Int) = 0) := by omega
        simp [h0]
    rw [if_neg (by omega), if_pos e, hun k (by omega)]
    simp only [Option.bind_some, like_ok c (by omega) k (by omega), impl_CellsOk.f, impl_cells, hr]
    simp
  | succ d ih =>
    intro i k hd hk
    obtain ⟨k, rfl⟩ : ∃ q, k = q + 1 := ⟨k - 1, by omega⟩
    obtain ⟨h1, h2⟩ := hlk i (by omega)
    have e := ih (i + 1) k (by omega) (by omega)
    rw [show ((i + 1 : Nat) : Int) = (i : Int) + 1 from by omega] at e
    simp only [laws_FnLocks.l0, if_pos (show (i : Int) < (s.length : Int) by omega), if_pos (show (0 : Int) ≤ (i : Int) by omega), look_locked r hr _ h1 h2, Option.bind_some, wrap_of (x := (i : Int) + 1) (by omega) (by omega), e]
    simp
theorem FnLocks : SFnLocks.Pure := by
  intro l hl _
  obtain ⟨K, hK⟩ : ∃ K, 20000000 < K := ⟨_, Nat.lt_succ_self _⟩
  refine ⟨K + 40 + 1 + 1, ?_⟩
  unfold laws_FnLocks.f
  simp only [laws_big.f, Option.bind_some]
  by_cases hb : (l.length : Int) > 4096
  · rw [if_pos (by simpa using hb)]
  rw [if_neg (by simpa using hb)]
  obtain ⟨⟨c, s⟩, e, hc, hs⟩ := drawLock_ok l hl (K + 40 + 1 + 1) (by omega) (by omega)
  dsimp only at hc hs
  obtain ⟨r, b, hx, hcase⟩ := lock_cases c s (by omega) (by omega)
  obtain ⟨e1, e2⟩ := hx (K + 40 + 1) (by omega)
  have hr6 : r.length ≤ 6 := by
    rcases hcase with ⟨_, rfl | rfl⟩ | ⟨_, _, _, _, rfl⟩
    · omega
    · simp
    · rw [lkL_len]; exact hc
  rw [e]
  simp only [Option.bind_some, e1, e2, bne_self_eq_false, Bool.false_eq_true, if_false, like_ok r (by omega) (K + 40 + 1 + 1) (by omega), Bool.not_true, laws_FnLocks.j0]
  rcases hcase with ⟨rfl, rfl | rfl⟩ | ⟨rfl, h1, h2, h3, rfl⟩
  · simp only [Bool.false_eq_true, if_false, like_ok r (by omega) (K + 40 + 1) (by omega), Option.bind_some]
    simp
  · obtain ⟨b, hbb⟩ := like_nil c (K + 40 + 1) (by omega)
    simp only [Bool.false_eq_true, if_false, hbb, Option.bind_some]
    cases b <;> simp
  · have hss : ∀ j : Nat, j < s.length → okS (rd_T59 s (j : Int)) = true := fun j hj => okSs_at s s.length 0 h2 j (by omega) (by omega)
    have hi := inv6_of h1
    have hr := lkL_cells c s h1 hss h3
    have hat := lkL_at c s hss s.length 0 c (by omega) hi.1
    have hlk : ∀ t : Nat, t < s.length → (0 ≤ (rd_T59 s (t : Int)).f1 ∧ (rd_T59 s (t : Int)).f1 ≤ 5) ∧ (rd_T30 (lkL c s 0 s.length c) (rd_T59 s (t : Int)).f1).f0 % 2 = 1 := fun t ht => by
      refine ⟨okS_slot (hss t ht), ?_⟩
      rw [(hat _).2.1 ⟨t, by omega, by omega, rfl⟩]
      have := okL_at c s s.length 0 h3 t (by omega) (by omega)
      omega
    obtain ⟨r2, b2, hx2, hcase2⟩ := lock_cases (lkL c s 0 s.length c) s (by omega) (by omega)
    have hb2 : b2 = decide (s.length = 0) := by
      by_cases h0 : s.length = 0
      · have := (hx2 20000000 (by omega)).2
        simp only [impl_Lock.f, impl_cells, hr, impl_sets s (by omega) _ (show 2 * s.length + 2 < 20000000 + 1 by omega), h2, Option.bind_some, if_true, impl_Lock.j0, Bool.not_true, Bool.false_eq_true, if_false, clone_ok _ (show (lkL c s 0 s.length c).length ≤ 1048576 by omega), impl_lock.f] at this
        have a2 := impl_lk1 (lkL c s 0 s.length c) (inv6_of hr) s hss (by omega) 0 0 20000000 (by omega) (by omega)
        rw [show ((0 : Nat) : Int) = 0 from rfl] at a2
        rw [a2] at this
        have a3 := impl_lk2 (lkL c s 0 s.length c) (inv6_of hr) s hss (by omega) 0 0 (20000000 - 0 - 1) (lkL c s 0 s.length c) (by omega) (by omega) rfl (by rw [lkL_len]; exact hi.1) (fun j => rfl)
        rw [show ((0 : Nat) : Int) = 0 from rfl] at a3
        simp only [okL, if_true, a3, Option.bind_some] at this
        have := (Prod.mk.inj (Option.some.inj this)).2
        simp [h0, ← this]
      · rcases hcase2 with ⟨hf, _⟩ | ⟨_, _, _, h5, _⟩
        · simp [h0, hf]
        · have := okL_at _ s s.length 0 h5 0 (by omega) (by omega)
          have := (hlk 0 (by omega)).2
          omega
    have hun : ∀ k, 20000000 < k → impl_Unlock.f k (lkL c s 0 s.length c) s = some c := fun k hk => by
      obtain ⟨k, rfl⟩ : ∃ q, k = q + 1 := ⟨k - 1, by omega⟩
      obtain ⟨y, ey, hy, hyj⟩ := unl_from c hi s hss (by omega) s.length 0 k (lkL c s 0 s.length c) (by omega) (by omega) h3 (by rw [lkL_len]; exact hi.1) (fun j => by
        obtain ⟨a1, a2, a3⟩ := hat j
        refine ⟨a1, ?_⟩
        by_cases hin : inS s 0 s.length j.toNat
        · exact .inr ⟨hin, a2 hin⟩
        · exact .inl (a3 hin))
      rw [show ((0 : Nat) : Int) = 0 from rfl] at ey
      rw [ext30 hy hi.1 hyj] at ey
      simp only [impl_Unlock.f, impl_cells, hr, impl_sets s (by omega) (k + 1) (by omega), h2, Option.bind_some, if_true, impl_Unlock.j0, Bool.not_true, Bool.false_eq_true, if_false, clone_ok _ (show (lkL c s 0 s.length c).length ≤ 1048576 by omega), impl_unlock.f, ey]
    have e5 := (hx2 (K + 40) (by omega)).2
    simp only [if_true, e5, Option.bind_some]
    have := rounds_ok c (lkL c s 0 s.length c) s hs hi.1 hr hlk K (fun k hk => hun k (by omega)) b2 hb2 (by omega) s.length 0 (K + 40 + 1) (by omega) (by omega)
    rw [show ((0 : Nat) : Int) = 0 from rfl] at this
    simpa using this
end Go.Proofs.Ytgdfbjmjgegicaa.Pure
