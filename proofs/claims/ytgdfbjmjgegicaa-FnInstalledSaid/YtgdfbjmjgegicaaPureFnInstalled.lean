/- Proved: the law FnInstalled answers true at every argument: the program answers as the reference, wherever the law's own guards let the argument in. Conditions: none beyond the given row's. -/
import Derived.Test.YtgdfbjmjgegicaaSFnInstalled
import Derived.Test.YtgdfbjmjgegicaaGenIs
namespace Go.Proofs.Ytgdfbjmjgegicaa.Pure
open Go.RowKit Go.Proofs.Ytgdfbjmjgegicaa.XIs Go.Proofs.Ytgdfbjmjgegicaa.Opened Go.Proofs.YtgdfbjmjgegicaaW.PrintWords Go.Proofs.YtgdfbjmjgegicaaW.PrintLast Go.Proofs.Ytgdfbjmjgegicaa.SFnInstalled Go.Proofs.Ytgdfbjmjgegicaa.Gen
set_option linter.unusedSimpArgs false
set_option linter.unusedVariables false
open Go.Proofs.Ytgdfbjmjgegicaa.Aid
theorem in_ (a b c : Int) : spec_l1In.f a b c = some (decide (b ≤ a ∧ a ≤ c)) := by
  unfold spec_l1In.f
  by_cases h : a ≥ b <;> simp [h]
theorem within_ (a b c : Int) : impl_within.f a b c = some (decide (b ≤ a ∧ a ≤ c)) := by
  unfold impl_within.f
  by_cases h : a ≥ b <;> simp [h]
theorem rd30_get {l : List S30} {i : Nat} (h : i < l.length) : rd_T30 l (i : Int) = l[i] := by
  unfold rd_T30
  rw [Int.toNat_natCast, List.getD_eq_getElem?_getD, List.getElem?_eq_getElem h]
  rfl
theorem rd30_set {l : List S30} {i : Nat} (h : i < l.length) (v : S30) : rd_T30 (l.set i v) (i : Int) = v := by
  rw [rd30_get (by rw [List.length_set]; exact h)]
  simp
theorem rd59_get {l : List S59} {i : Nat} (h : i < l.length) : rd_T59 l (i : Int) = l[i] := by
  unfold rd_T59
  rw [Int.toNat_natCast, List.getD_eq_getElem?_getD, List.getElem?_eq_getElem h]
  rfl
theorem rd59_set {l : List S59} {i : Nat} (h : i < l.length) (v : S59) : rd_T59 (l.set i v) (i : Int) = v := by
  rw [rd59_get (by rw [List.length_set]; exact h)]
  simp
/-- A cell is right. -/
def okC (c : S30) : Bool := decide (0 ≤ c.f0 ∧ c.f0 ≤ 4000003) && (decide (-1000000000 ≤ c.f1 ∧ c.f1 ≤ 1000000000) && (decide (c.f0 / 2 % 2 = 1) || decide (c.f1 = 0)))
theorem spec_used (a : Int) : spec_Used.f a = some (decide (0 ≤ a ∧ a ≤ 4000003) && decide (a / 2 % 2 = 1)) := by
  simp only [spec_Used.f, spec_HeadOk.f, in_, Option.bind_some]
  by_cases h : 0 ≤ a ∧ a ≤ 4000003
  · rw [if_pos (by simpa using h), Int.tdiv_eq_ediv_of_nonneg h.1, wrap_of (by omega) (by omega), Int.tmod_eq_emod_of_nonneg (by omega)]
    simp [h]
    rfl
  · rw [if_neg (by simpa using h)]
    simp [h]
theorem spec_cells_from (l : List S30) (hl : l.length ≤ 1048576) : ∀ d i k, i + d = l.length → d < k → spec_CellsOk.l0 k l (i : Int) = some ((l.drop i).all okC) := by
  intro d
  induction d with
  | zero =>
    intro i k hd hk
    obtain ⟨k, rfl⟩ : ∃ m, k = m + 1 := ⟨k - 1, by omega⟩
    simp only [spec_CellsOk.l0]
    rw [if_neg (by omega), List.drop_of_length_le (by omega)]
    rfl
  | succ d ih =>
    intro i k hd hk
    obtain ⟨k, rfl⟩ : ∃ m, k = m + 1 := ⟨k - 1, by omega⟩
    simp only [spec_CellsOk.l0]
    rw [if_pos (by omega), if_pos (by omega), rd30_get (show i < l.length by omega), wrap_of (by omega) (by omega), List.drop_eq_getElem_cons (show i < l.length by omega)]
    have e := ih (i + 1) k (by omega) (by omega)
    rw [show ((i + 1 : Nat) : Int) = (i : Int) + 1 from by omega] at e
    rw [e]
    simp only [spec_HeadOk.f, spec_l1Value.f, in_, spec_used, Option.bind_some, List.all_cons, okC]
    by_cases h1 : 0 ≤ l[i].f0 ∧ l[i].f0 ≤ 4000003 <;> by_cases h2 : -1000000000 ≤ l[i].f1 ∧ l[i].f1 ≤ 1000000000 <;> by_cases h3 : l[i].f0 / 2 % 2 = 1 <;> by_cases h4 : l[i].f1 = 0 <;> simp [h1, h2, h3, h4]
def okCs (l : List S30) : Bool := decide (l.length = 6) && l.all okC
theorem spec_cells (l : List S30) (hl : l.length ≤ 1048576) (k : Nat) (hk : l.length < k) : spec_CellsOk.f k l = some (okCs l) := by
  unfold spec_CellsOk.f okCs
  by_cases h : l.length = 6
  · rw [if_pos (by omega)]
    have e := spec_cells_from l hl l.length 0 k (by omega) hk
    rw [show ((0 : Nat) : Int) = 0 from rfl] at e
    rw [e]
    simp [h]
  · rw [if_neg (by omega)]
    simp [h]
theorem impl_cell (x : S30) : impl_areCells_1.f x.f0 x.f1 = some (!okC x) := by
  simp only [impl_areCells_1.f, impl_isHead.f, impl_isValue.f, within_, Option.bind_some, okC]
  by_cases h1 : 0 ≤ x.f0 ∧ x.f0 ≤ 4000003
  · by_cases h2 : -1000000000 ≤ x.f1 ∧ x.f1 ≤ 1000000000
    · rw [if_pos (by simpa using h1), if_pos (by simpa using h2), and2]
      by_cases h3 : x.f0 / 2 % 2 = 1
      · rw [if_neg (by omega)]
        simp [h1, h2, h3]
      · rw [if_pos (by omega)]
        by_cases h4 : x.f1 = 0 <;> simp [h1, h2, h3, h4]
    · rw [if_pos (by simpa using h1), if_neg (by simpa using h2)]
      simp [h1, h2]
  · rw [if_neg (by simpa using h1)]
    simp [h1]
theorem impl_cells (l : List S30) : impl_areCells.f l = some (okCs l) := by
  unfold impl_areCells.f okCs
  by_cases h : l.length = 6
  · rw [if_pos (by omega)]
    obtain ⟨r, e, hr⟩ := idx_total (fun x : S30 => impl_areCells_1.f x.f0 x.f1) (fun x => !okC x) l (fun x _ => impl_cell x) 0
    simp only [impl_Cell_105.f, e, Option.bind_some, hr]
    rw [← List.not_all_eq_any_not]
    simp [h]
  · rw [if_neg (by omega)]
    simp [h]
theorem okCs_head {l : List S30} (h : okCs l = true) {i : Nat} (hi : i < l.length) : 0 ≤ l[i].f0 ∧ l[i].f0 ≤ 4000003 := by
  unfold okCs at h
  rw [Bool.and_eq_true, List.all_eq_true] at h
  have e := h.2 l[i] (List.getElem_mem hi)
  unfold okC at e
  rw [Bool.and_eq_true] at e
  exact of_decide_eq_true e.1
theorem okCs_len {l : List S30} (h : okCs l = true) : l.length = 6 := by
  unfold okCs at h
  rw [Bool.and_eq_true] at h
  exact of_decide_eq_true h.1
theorem or1 (n : Int) (h0 : 0 ≤ n) (h1 : n ≤ 4611686018427387904) : Go.bits .or .i64 n 1 = 2 * (n / 2) + 1 := by
  show IntKind.i64.wrap ((BitVec.ofInt 64 n ||| BitVec.ofInt 64 1).toNat : Nat) = _
  have h1' : (BitVec.ofInt 64 1).toNat = 1 := by decide
  obtain ⟨a, rfl⟩ : ∃ a : Nat, n = (a : Int) := ⟨n.toNat, by omega⟩
  have h2 : (BitVec.ofInt 64 (a : Int)).toNat = a := by rw [BitVec.ofInt_natCast, BitVec.toNat_ofNat]; exact Nat.mod_eq_of_lt (by omega)
  rw [BitVec.toNat_or, h1', h2]
  have e1 : (a ||| 1) / 2 = a / 2 := by rw [Nat.or_div_two]; simp
  have e2 : (a ||| 1) % 2 ^ 1 = (a % 2 ^ 1) ||| (1 % 2 ^ 1) := Nat.or_mod_two_pow
  have e3 : (a ||| 1) % 2 = 1 := by
    have : a % 2 = 0 ∨ a % 2 = 1 := by omega
    have e2' : (a ||| 1) % 2 = (a % 2) ||| 1 := e2
    rcases this with h | h <;> rw [e2', h] <;> rfl
  rw [wraps_i64 _ (Int.natCast_nonneg _) (by omega)]
  omega
theorem andNot1 (n : Int) (h0 : 0 ≤ n) (h1 : n ≤ 4611686018427387904) : Go.bits .andNot .i64 n 1 = 2 * (n / 2) := by
  show IntKind.i64.wrap ((BitVec.ofInt 64 n &&& ~~~ (BitVec.ofInt 64 1)).toNat : Nat) = _
  have h1' : (~~~ (BitVec.ofInt 64 1)).toNat = 18446744073709551614 := by decide
  obtain ⟨a, rfl⟩ : ∃ a : Nat, n = (a : Int) := ⟨n.toNat, by omega⟩
  have h2 : (BitVec.ofInt 64 (a : Int)).toNat = a := by rw [BitVec.ofInt_natCast, BitVec.toNat_ofNat]; exact Nat.mod_eq_of_lt (by omega)
  rw [BitVec.toNat_and, h1', h2]
  have e1 : (a &&& 18446744073709551614) / 2 = a / 2 := by
    rw [Nat.and_div_two, show 18446744073709551614 / 2 = 2 ^ 63 - 1 by decide, Nat.and_two_pow_sub_one_eq_mod]
    exact Nat.mod_eq_of_lt (by omega)
  have e2 : (a &&& 18446744073709551614) % 2 ^ 1 = (a % 2 ^ 1) &&& (18446744073709551614 % 2 ^ 1) := Nat.and_mod_two_pow
  have e3 : (a &&& 18446744073709551614) % 2 = 0 := by
    have e2' : (a &&& 18446744073709551614) % 2 = (a % 2) &&& 0 := e2
    rw [e2', Nat.and_zero]
  rw [wraps_i64 _ (Int.natCast_nonneg _) (by omega)]
  omega
def okS (x : S59) : Bool := decide (0 ≤ x.f0 ∧ x.f0 ≤ 5) && (decide (0 ≤ x.f1 ∧ x.f1 ≤ 5) && (decide (-1000000000 ≤ x.f2 ∧ x.f2 ≤ 1000000000) && decide (0 ≤ x.f4 ∧ x.f4 ≤ 999999)))
theorem spec_set (x : S59) : spec_SetOk.f x.f0 x.f1 x.f2 x.f3 x.f4 = some (okS x) := by
  simp only [spec_SetOk.f, spec_l1Region.f, spec_l1Slot.f, spec_l1Value.f, in_, Option.bind_some, okS]
  by_cases h1 : 0 ≤ x.f0 ∧ x.f0 ≤ 5 <;> by_cases h2 : 0 ≤ x.f1 ∧ x.f1 ≤ 5 <;> by_cases h3 : -1000000000 ≤ x.f2 ∧ x.f2 ≤ 1000000000 <;> simp [h1, h2, h3]
theorem impl_set (x : S59) : impl_isSet.f x.f0 x.f1 x.f2 x.f3 x.f4 = some (okS x) := by
  simp only [impl_isSet.f, impl_isRegion.f, impl_isSlot.f, impl_isValue.f, within_, Option.bind_some, okS]
  by_cases h1 : 0 ≤ x.f0 ∧ x.f0 ≤ 5 <;> by_cases h2 : 0 ≤ x.f1 ∧ x.f1 ≤ 5 <;> by_cases h3 : -1000000000 ≤ x.f2 ∧ x.f2 ≤ 1000000000 <;> simp [h1, h2, h3]
/-- The set at place i is right, and stands rightly behind the one ahead of it. -/
def stepS (l : List S59) (i : Nat) : Bool := okS (rd_T59 l (i : Int)) && (decide (i = 0) || (decide ((rd_T59 l (i : Int)).f0 = (rd_T59 l 0).f0) && decide ((rd_T59 l ((i : Int) - 1)).f1 < (rd_T59 l (i : Int)).f1)))
def okSs (l : List S59) : Nat → Nat → Bool
  | _, 0 => true
  | i, d + 1 => stepS l i && okSs l (i + 1) d
theorem spec_sets_from (l : List S59) (hl : l.length ≤ 1048576) : ∀ d i k, i + d = l.length → 2 * d + 2 < k → spec_l2Sets.l0 k l (i : Int) = some (okSs l i d) := by
  intro d
  induction d with
  | zero =>
    intro i k hd hk
    obtain ⟨k, rfl⟩ : ∃ q, k = q + 1 := ⟨k - 1, by omega⟩
    simp only [spec_l2Sets.l0]
    rw [if_neg (by omega)]
    rfl
  | succ d ih =>
    intro i k hd hk
    obtain ⟨k, rfl⟩ : ∃ q, k = q + 1 := ⟨k - 1, by omega⟩
    have e := ih (i + 1) k (by omega) (by omega)
    rw [show ((i + 1 : Nat) : Int) = (i : Int) + 1 from by omega] at e
    simp only [spec_l2Sets.l0, spec_set, Option.bind_some, if_pos (show (i : Int) < (l.length : Int) by omega), if_pos (show (0 : Int) ≤ (i : Int) by omega), wrap_of (x := (i : Int) + 1) (by omega) (by omega), e, okSs, stepS]
    by_cases h0 : (i : Int) > 0
    · have h0' : ¬ i = 0 := by omega
      simp only [if_pos h0, wrap_of (x := (i : Int) - 1) (by omega) (by omega), if_pos (show 0 ≤ (i : Int) - 1 by omega), if_pos (show (i : Int) - 1 < (l.length : Int) by omega), if_pos (show (0 : Int) < (l.length : Int) by omega)]
      by_cases a2 : (rd_T59 l (i : Int)).f1 ≤ (rd_T59 l ((i : Int) - 1)).f1
      · have a2' : ¬ (rd_T59 l ((i : Int) - 1)).f1 < (rd_T59 l (i : Int)).f1 := by omega
        cases okS (rd_T59 l (i : Int)) <;> simp [h0', a2, a2']
      · have a2' : (rd_T59 l ((i : Int) - 1)).f1 < (rd_T59 l (i : Int)).f1 := by omega
        by_cases a3 : (rd_T59 l (i : Int)).f0 = (rd_T59 l 0).f0 <;> cases okS (rd_T59 l (i : Int)) <;> simp [h0', a2, a2', a3]
    · have h0' : i = 0 := by omega
      rw [if_neg h0]
      cases okS (rd_T59 l (i : Int)) <;> simp [h0']
theorem impl_sets_from (l : List S59) (hl : l.length ≤ 1048576) : ∀ d i k, i + d = l.length → 2 * d + 2 < k → impl_areSets.l0 k l l (l.length : Int) (i : Int) = some (okSs l i d) := by
  intro d
  induction d with
  | zero =>
    intro i k hd hk
    obtain ⟨k, rfl⟩ : ∃ q, k = q + 1 := ⟨k - 1, by omega⟩
    simp only [impl_areSets.l0]
    rw [if_neg (by omega)]
    rfl
  | succ d ih =>
    intro i k hd hk
    obtain ⟨k, rfl⟩ : ∃ q, k = q + 1 := ⟨k - 1, by omega⟩
    have e := ih (i + 1) k (by omega) (by omega)
    rw [show ((i + 1 : Nat) : Int) = (i : Int) + 1 from by omega] at e
    simp only [impl_areSets.l0, impl_set, Option.bind_some, if_pos (show (i : Int) < (l.length : Int) by omega), if_pos (show (0 : Int) ≤ (i : Int) by omega), if_pos (show (0 : Int) < (l.length : Int) by omega), wrap_of (x := (i : Int) + 1) (by omega) (by omega), e, okSs, stepS]
    by_cases h0 : (i : Int) > 0
    · have h0' : ¬ i = 0 := by omega
      simp only [if_pos h0, wrap_of (x := (i : Int) - 1) (by omega) (by omega), if_pos (show 0 ≤ (i : Int) - 1 by omega), if_pos (show (i : Int) - 1 < (l.length : Int) by omega)]
      by_cases a2 : (rd_T59 l (i : Int)).f1 ≤ (rd_T59 l ((i : Int) - 1)).f1
      · have a2' : ¬ (rd_T59 l ((i : Int) - 1)).f1 < (rd_T59 l (i : Int)).f1 := by omega
        by_cases a3 : (rd_T59 l (i : Int)).f0 = (rd_T59 l 0).f0 <;> cases okS (rd_T59 l (i : Int)) <;> simp [h0', a2, a2', a3]
      · have a2' : (rd_T59 l ((i : Int) - 1)).f1 < (rd_T59 l (i : Int)).f1 := by omega
        by_cases a3 : (rd_T59 l (i : Int)).f0 = (rd_T59 l 0).f0 <;> cases okS (rd_T59 l (i : Int)) <;> simp [h0', a2, a2', a3]
    · have h0' : i = 0 := by omega
      subst h0'
      rw [if_neg h0]
      cases okS (rd_T59 l ((0 : Nat) : Int)) <;> simp
theorem spec_sets (l : List S59) (hl : l.length ≤ 1048576) (k : Nat) (hk : 2 * l.length + 2 < k) : spec_l2Sets.f k l = some (okSs l 0 l.length) := spec_sets_from l hl l.length 0 k (by omega) hk
theorem impl_sets (l : List S59) (hl : l.length ≤ 1048576) (k : Nat) (hk : 2 * l.length + 2 < k) : impl_areSets.f k l = some (okSs l 0 l.length) := impl_sets_from l hl l.length 0 k (by omega) hk
theorem okSs_at (l : List S59) : ∀ d i, okSs l i d = true → ∀ j, i ≤ j → j < i + d → okS (rd_T59 l (j : Int)) = true := by
  intro d
  induction d with
  | zero => intro i _ j h1 h2; omega
  | succ d ih =>
    intro i h j h1 h2
    simp only [okSs, Bool.and_eq_true] at h
    by_cases hj : j = i
    · subst hj
      have := h.1
      simp only [stepS, Bool.and_eq_true] at this
      exact this.1
    · exact ih (i + 1) h.2 j (by omega) (by omega)
theorem okS_slot {x : S59} (h : okS x = true) : 0 ≤ x.f1 ∧ x.f1 ≤ 5 := by
  simp only [okS, Bool.and_eq_true, decide_eq_true_eq] at h
  exact h.2.1
theorem okS_ver {x : S59} (h : okS x = true) : 0 ≤ x.f4 ∧ x.f4 ≤ 999999 := by
  simp only [okS, Bool.and_eq_true, decide_eq_true_eq] at h
  exact h.2.2.2
theorem rd30_set_if (x : List S30) (n : Nat) (v : S30) (j : Int) (hn : n < x.length) : rd_T30 (x.set n v) j = if j.toNat = n then v else rd_T30 x j := by
  unfold rd_T30
  rw [List.getD_eq_getElem?_getD, List.getD_eq_getElem?_getD, List.getElem?_set]
  by_cases h : n = j.toNat
  · rw [if_pos h, if_pos hn, if_pos h.symm]
    rfl
  · rw [if_neg h, if_neg (fun e => h e.symm)]
def inv6 (x : List S30) : Prop := x.length = 6 ∧ ∀ j : Int, 0 ≤ (rd_T30 x j).f0 ∧ (rd_T30 x j).f0 ≤ 4000003
theorem inv6_set {x : List S30} (h : inv6 x) {n : Nat} {v : S30} (hn : n < 6) (hv : 0 ≤ v.f0 ∧ v.f0 ≤ 4000003) : inv6 (x.set n v) := by
  refine ⟨by rw [List.length_set]; exact h.1, fun j => ?_⟩
  rw [rd30_set_if x n v j (by rw [h.1]; exact hn)]
  by_cases hj : j.toNat = n
  · rw [if_pos hj]; exact hv
  · rw [if_neg hj]; exact h.2 j
theorem inv6_of {l : List S30} (h : okCs l = true) : inv6 l := by
  refine ⟨okCs_len h, fun j => ?_⟩
  by_cases hj : j.toNat < l.length
  · have e : rd_T30 l j = l[j.toNat] := by
      unfold rd_T30
      rw [List.getD_eq_getElem?_getD, List.getElem?_eq_getElem hj]; rfl
    rw [e]
    exact okCs_head h hj
  · have e : rd_T30 l j = z30 := by
      unfold rd_T30
      rw [List.getD_eq_getElem?_getD, List.getElem?_eq_none (by omega)]; rfl
    rw [e]
    exact ⟨by decide, by decide⟩
theorem quarter (x : Int) (h0 : 0 ≤ x) (h1 : x ≤ 4000003) : wrap64 (Int.tdiv x 4) = x / 4 := by
  rw [Int.tdiv_eq_ediv_of_nonneg h0, wrap_of (by omega) (by omega)]
theorem spec_ver (a : Int) (h : 0 ≤ a ∧ a ≤ 4000003) : spec_Version.f a = some (a / 4) := by
  simp only [spec_Version.f, spec_HeadOk.f, in_, Option.bind_some]
  rw [if_pos (by simpa using h), quarter a h.1 h.2]
theorem copy_ok (l : List S30) (hl : l.length ≤ 1048576) : spec_l3Copy.f l = some l := by
  simp only [spec_l3Copy.f, Option.bind_some, List.nil_append, List.length_nil]
  rw [if_pos (by omega)]
theorem clone_ok (l : List S30) (hl : l.length ≤ 1048576) : impl_Cell_81.f l = some l := by
  simp only [impl_Cell_81.f, Option.bind_some, List.nil_append, List.length_nil]
  rw [if_pos (by omega)]
theorem head_val (v : Int) (u : Bool) (h : 0 ≤ v ∧ v ≤ 999999) : spec_l1Head.f (wrap64 (v + 1)) u false = some (4 * (v + 1) + (if u = true then 2 else 0)) := by
  have w0 : wrap64 (4 * (v + 1)) = 4 * (v + 1) := wrap_of (by omega) (by omega)
  have w2 : wrap64 (4 * (v + 1) + 2) = 4 * (v + 1) + 2 := wrap_of (by omega) (by omega)
  rw [wrap_of (x := v + 1) (by omega) (by omega)]
  cases u <;> simp [spec_l1Head.f, w0, w2]
theorem pack_eq (a : Int) (u l : Bool) : impl_pack.f a u l = spec_l1Head.f a u l := rfl
/-- The cell that a set leaves. -/
def cellOf (x : S59) : S30 := ⟨4 * (x.f4 + 1) + (if x.f3 = true then 2 else 0), if x.f3 = true then x.f2 else 0⟩
theorem cellOf_head {x : S59} (h : 0 ≤ x.f4 ∧ x.f4 ≤ 999999) : 0 ≤ (cellOf x).f0 ∧ (cellOf x).f0 ≤ 4000003 := by
  show 0 ≤ 4 * (x.f4 + 1) + (if x.f3 = true then 2 else 0) ∧ 4 * (x.f4 + 1) + (if x.f3 = true then 2 else 0) ≤ 4000003
  cases x.f3 <;> simp <;> omega
def stepC (t : S59) (c : S30) : S30 := if c.f0 / 4 > t.f4 then c else cellOf t
def inL (s : List S59) : Nat → Nat → List S30 → List S30
  | _, 0, x => x
  | i, d + 1, x => inL s (i + 1) d (if (rd_T30 x (rd_T59 s (i : Int)).f1).f0 / 4 > (rd_T59 s (i : Int)).f4 then x else x.set (rd_T59 s (i : Int)).f1.toNat (cellOf (rd_T59 s (i : Int))))
theorem rd30_nat (l : List S30) {i j : Int} (h : i.toNat = j.toNat) : rd_T30 l i = rd_T30 l j := by unfold rd_T30; rw [h]
theorem in_fold (s : List S59) (hs : ∀ j : Nat, j < s.length → okS (rd_T59 s (j : Int)) = true) (hl : s.length ≤ 1048576) : ∀ d (i : Nat) (x : List S30), i + d = s.length → inv6 x → inv6 (inL s i d x) ∧ ∀ k, d < k → spec_l3Install.l0 k x s (i : Int) = some (inL s i d x) ∧ impl_install.l0 k x s (s.length : Int) (i : Int) = some (inL s i d x) := by
  intro d
  induction d with
  | zero =>
    intro i x hd hx
    refine ⟨hx, fun k hk => ?_⟩
    obtain ⟨k, rfl⟩ : ∃ q, k = q + 1 := ⟨k - 1, by omega⟩
    simp only [spec_l3Install.l0, impl_install.l0, if_neg (show ¬ ((i : Int) < (s.length : Int)) by omega), inL]
    (try (refine ⟨?_, ?_⟩ <;> first | trivial | rfl))
  | succ d ih =>
    intro i x hd hx
    have ho := okS_slot (hs i (by omega))
    have hv := okS_ver (hs i (by omega))
    have hh := hx.2 (rd_T59 s (i : Int)).f1
    have h6 := hx.1
    have ec : ((i + 1 : Nat) : Int) = (i : Int) + 1 := by omega
    have eu : ∀ k, spec_l3Install.l0 (k + 1) x s (i : Int) = (if (rd_T30 x (rd_T59 s (i : Int)).f1).f0 / 4 > (rd_T59 s (i : Int)).f4 then spec_l3Install.l0 k x s ((i : Int) + 1) else spec_l3Install.l0 k (x.set (rd_T59 s (i : Int)).f1.toNat (cellOf (rd_T59 s (i : Int)))) s ((i : Int) + 1)) ∧ impl_install.l0 (k + 1) x s (s.length : Int) (i : Int) = (if (rd_T30 x (rd_T59 s (i : Int)).f1).f0 / 4 > (rd_T59 s (i : Int)).f4 then impl_install.l0 k x s (s.length : Int) ((i : Int) + 1) else impl_install.l0 k (x.set (rd_T59 s (i : Int)).f1.toNat (cellOf (rd_T59 s (i : Int)))) s (s.length : Int) ((i : Int) + 1)) := fun k => by
      simp only [spec_l3Install.l0, impl_install.l0, if_pos (show (i : Int) < (s.length : Int) by omega), if_pos (show (0 : Int) ≤ (i : Int) by omega), if_pos ho.1, if_pos (show (rd_T59 s (i : Int)).f1 < (x.length : Int) by omega), spec_ver _ hh, pack_eq, head_val _ _ hv, Option.bind_some, quarter _ hh.1 hh.2, wrap_of (x := (i : Int) + 1) (by omega) (by omega), cellOf]
      by_cases h1 : (rd_T30 x (rd_T59 s (i : Int)).f1).f0 / 4 > (rd_T59 s (i : Int)).f4 <;> by_cases h2 : (rd_T59 s (i : Int)).f3 = true <;> simp [h1, h2]
    simp only [inL]
    by_cases h1 : (rd_T30 x (rd_T59 s (i : Int)).f1).f0 / 4 > (rd_T59 s (i : Int)).f4
    · simp only [if_pos h1] at eu ⊢
      obtain ⟨hi, hr⟩ := ih (i + 1) x (by omega) hx
      rw [ec] at hr
      refine ⟨hi, fun k hk => ?_⟩
      obtain ⟨k, rfl⟩ : ∃ q, k = q + 1 := ⟨k - 1, by omega⟩
      rw [(eu k).1, (eu k).2]
      exact hr k (by omega)
    · simp only [if_neg h1] at eu ⊢
      obtain ⟨hi, hr⟩ := ih (i + 1) (x.set (rd_T59 s (i : Int)).f1.toNat (cellOf (rd_T59 s (i : Int)))) (by omega) (inv6_set hx (by omega) (cellOf_head hv))
      rw [ec] at hr
      refine ⟨hi, fun k hk => ?_⟩
      obtain ⟨k, rfl⟩ : ∃ q, k = q + 1 := ⟨k - 1, by omega⟩
      rw [(eu k).1, (eu k).2]
      exact hr k (by omega)
theorem slots_rise (l : List S59) : ∀ d i, okSs l i d = true → ∀ a b : Nat, i ≤ a → a < b → b < i + d → (rd_T59 l (a : Int)).f1 < (rd_T59 l (b : Int)).f1 := by
  have one : ∀ d i, okSs l i d = true → ∀ b : Nat, i ≤ b → b < i + d → 0 < b → (rd_T59 l ((b : Int) - 1)).f1 < (rd_T59 l (b : Int)).f1 := by
    intro d
    induction d with
    | zero => intro i _ b h1 h2; omega
    | succ d ih =>
      intro i h b h1 h2 h3
      simp only [okSs, Bool.and_eq_true] at h
      by_cases hb : b = i
      · subst hb
        have := h.1
        simp only [stepS, Bool.and_eq_true, Bool.or_eq_true, decide_eq_true_eq] at this
        rcases this.2 with h0 | h0
        · omega
        · exact h0.2
      · exact ih (i + 1) h.2 b (by omega) (by omega) h3
  intro d i h a b h1 h2 h3
  obtain ⟨n, rfl⟩ : ∃ n, b = a + 1 + n := ⟨b - (a + 1), by omega⟩
  induction n with
  | zero =>
    have := one d i h (a + 1) (by omega) (by omega) (by omega)
    rw [show (((a + 1 : Nat) : Int) - 1) = (a : Int) from by omega] at this
    exact this
  | succ n ih =>
    have q := ih (by omega) (by omega)
    have := one d i h (a + 1 + (n + 1)) (by omega) (by omega) (by omega)
    rw [show (((a + 1 + (n + 1) : Nat) : Int) - 1) = ((a + 1 + n : Nat) : Int) from by omega] at this
    omega
theorem inL_at (s : List S59) (hs : ∀ j : Nat, j < s.length → okS (rd_T59 s (j : Int)) = true) (hr : ∀ a b : Nat, a < b → b < s.length → (rd_T59 s (a : Int)).f1 < (rd_T59 s (b : Int)).f1) : ∀ d i x, i + d ≤ s.length → x.length = 6 → ∀ j : Int, (∀ t : Nat, i ≤ t → t < i + d → (rd_T59 s (t : Int)).f1.toNat = j.toNat → rd_T30 (inL s i d x) j = stepC (rd_T59 s (t : Int)) (rd_T30 x j)) ∧ ((∀ t : Nat, i ≤ t → t < i + d → (rd_T59 s (t : Int)).f1.toNat ≠ j.toNat) → rd_T30 (inL s i d x) j = rd_T30 x j) := by
  intro d
  induction d with
  | zero =>
    intro i x _ hx j
    exact ⟨fun t h1 h2 => by omega, fun _ => rfl⟩
  | succ d ih =>
    intro i x hd hx j
    have ho := okS_slot (hs i (by omega))
    simp only [inL]
    have e1 : rd_T30 (if (rd_T30 x (rd_T59 s (i : Int)).f1).f0 / 4 > (rd_T59 s (i : Int)).f4 then x else x.set (rd_T59 s (i : Int)).f1.toNat (cellOf (rd_T59 s (i : Int)))) j = if (rd_T59 s (i : Int)).f1.toNat = j.toNat then stepC (rd_T59 s (i : Int)) (rd_T30 x j) else rd_T30 x j := by
      by_cases hj : (rd_T59 s (i : Int)).f1.toNat = j.toNat
      · rw [if_pos hj, rd30_nat x hj]
        unfold stepC
        by_cases h1 : (rd_T30 x j).f0 / 4 > (rd_T59 s (i : Int)).f4
        · rw [if_pos h1, if_pos h1]
        · rw [if_neg h1, if_neg h1, rd30_set_if _ _ _ _ (by omega), if_pos hj.symm]
      · rw [if_neg hj]
        by_cases h1 : (rd_T30 x (rd_T59 s (i : Int)).f1).f0 / 4 > (rd_T59 s (i : Int)).f4
        · rw [if_pos h1]
        · rw [if_neg h1, rd30_set_if _ _ _ _ (by omega), if_neg (fun e => hj e.symm)]
    obtain ⟨a1, a2⟩ := ih (i + 1) (if (rd_T30 x (rd_T59 s (i : Int)).f1).f0 / 4 > (rd_T59 s (i : Int)).f4 then x else x.set (rd_T59 s (i : Int)).f1.toNat (cellOf (rd_T59 s (i : Int)))) (by omega) (by by_cases h1 : (rd_T30 x (rd_T59 s (i : Int)).f1).f0 / 4 > (rd_T59 s (i : Int)).f4 <;> simp [h1, hx]) j
    rw [e1] at a1 a2
    refine ⟨fun t h1 h2 h3 => ?_, fun hn => ?_⟩
    · by_cases ht : t = i
      · subst ht
        rw [if_pos h3] at a2
        refine a2 (fun u hu1 hu2 hu3 => ?_)
        have := hr t u (by omega) (by omega)
        omega
      · have hne : ¬ (rd_T59 s (i : Int)).f1.toNat = j.toNat := fun e => by
          have := hr i t (by omega) (by omega)
          have := okS_slot (hs t (by omega))
          omega
        rw [if_neg hne] at a1
        exact a1 t (by omega) (by omega) h3
    · rw [if_neg (hn i (by omega) (by omega))] at a2
      exact a2 (fun t h1 h2 => hn t (by omega) (by omega))
theorem stepC_twice (t : S59) (c : S30) (h : 0 ≤ t.f4 ∧ t.f4 ≤ 999999) : stepC t (stepC t c) = stepC t c := by
  unfold stepC
  by_cases h1 : c.f0 / 4 > t.f4
  · rw [if_pos h1, if_pos h1]
  · rw [if_neg h1]
    have : (cellOf t).f0 / 4 > t.f4 := by
      show (4 * (t.f4 + 1) + (if t.f3 = true then 2 else 0)) / 4 > t.f4
      cases t.f3 <;> simp <;> omega
    rw [if_pos this]
theorem ext30 {x y : List S30} (hx : x.length = 6) (hy : y.length = 6) (h : ∀ j : Int, rd_T30 x j = rd_T30 y j) : x = y := by
  apply List.ext_getElem (by omega)
  intro n h1 h2
  have := h (n : Int)
  rw [rd30_get h1, rd30_get h2] at this
  exact this
theorem okC_cellOf {x : S59} (h : okS x = true) : okC (cellOf x) = true := by
  have hv := okS_ver h
  have hh := cellOf_head hv
  simp only [okS, Bool.and_eq_true, decide_eq_true_eq] at h
  simp only [okC, Bool.and_eq_true, Bool.or_eq_true, decide_eq_true_eq]
  refine ⟨hh, ?_⟩
  unfold cellOf
  cases hx : x.f3
  · simp
  · simp only [if_true]
    exact ⟨h.2.2.1, .inl (by omega)⟩
theorem new_ok (l : List Int) (hl : l.length ≤ maxLen) (k : Nat) (hk : l.length < k) : ∃ h, spec_l1New.f k l = some (l, 0, h) := by
  unfold maxLen at hl
  obtain ⟨r, ⟨h, rfl⟩, e⟩ := loop_inv (fun k (s : Int × Int) => spec_l1New.l0 k l s.1 s.2) (fun i s => s.2 = (i : Int)) (fun r => ∃ h, r = (l, 0, h)) l.length 0
    (fun k i s _ hi hP => .inl ⟨(Go.bits .and .i64 (wrap64 ((wrap64 ((wrap64 (s.1 * 137)) + (wrap64 (rd l s.2)))) + 11)) 1073741823, wrap64 (s.2 + 1)), by
      show wrap64 (s.2 + 1) = ((i + 1 : Nat) : Int)
      rw [hP, wrap_of (by omega) (by omega)]; omega, by
      show spec_l1New.l0 (k + 1) l s.1 s.2 = _
      simp only [spec_l1New.l0]
      rw [if_pos (by omega), if_pos (by omega)]⟩)
    (fun k s _ hP => ⟨_, ⟨s.1, rfl⟩, by
      show spec_l1New.l0 (k + 1) l s.1 s.2 = _
      simp only [spec_l1New.l0]
      rw [if_neg (by omega)]⟩) l.length 0 k (wrap64 (101027 + (l.length : Int)), 0) (by omega) (by omega) rfl
  exact ⟨h, e⟩
theorem byte_ok (l : List Int) (hl : l.length ≤ maxLen) (i h : Int) (hi : 0 ≤ i) : Ok (fun r : Int × Int × Int => 0 ≤ r.1 ∧ r.1 ≤ 255 ∧ 0 ≤ r.2.1) (spec_l1Byte.f l i h) := by
  unfold maxLen at hl
  unfold spec_l1Byte.f
  refine Ok.ite (fun h1 => Ok.pos hi (Ok.ret ?_)) (fun _ => Ok.ret ?_)
  · simp only [and255]
    refine ⟨by omega, by omega, ?_⟩
    rw [wrap_of (by omega) (by omega)]; omega
  · simp only [and255]
    exact ⟨by omega, by omega, hi⟩
theorem below_ok (l : List Int) (hl : l.length ≤ maxLen) (i h : Int) (hi : 0 ≤ i) (n : Int) : Ok (fun r : Int × Int × Int => 0 ≤ r.1 ∧ (0 < n → r.1 < n) ∧ (n ≤ 0 → r.1 = 0) ∧ 0 ≤ r.2.1) (spec_l1Below.f l i h n) := by
  unfold spec_l1Below.f
  refine Ok.ite (fun h1 => Ok.ret ⟨by omega, by omega, by omega, hi⟩) (fun h1 => Ok.ite (fun h2 => ?_) (fun h2 => ?_))
  · refine Ok.bind (byte_ok l hl i h hi) fun r hr => Ok.neg (by omega) (Ok.ret ?_)
    obtain ⟨b, i', h'⟩ := r
    obtain ⟨q1, q2, q3⟩ := hr
    dsimp only at *
    rw [Int.tmod_eq_emod_of_nonneg q1]
    exact ⟨Int.emod_nonneg _ (by omega), fun _ => Int.emod_lt_of_pos _ (by omega), by omega, q3⟩
  · refine Ok.bind (byte_ok l hl i h hi) fun r1 h1' => Ok.bind (byte_ok l hl r1.2.1 r1.2.2 h1'.2.2) fun r2 h2' => Ok.bind (byte_ok l hl r2.2.1 r2.2.2 h2'.2.2) fun r3 h3' => Ok.bind (byte_ok l hl r3.2.1 r3.2.2 h3'.2.2) fun r4 h4' => Ok.neg (by omega) (Ok.ret ?_)
    obtain ⟨b1, i1, h1⟩ := r1
    obtain ⟨b2, i2, h2⟩ := r2
    obtain ⟨b3, i3, h3⟩ := r3
    obtain ⟨b4, i4, h4⟩ := r4
    obtain ⟨p1, p2, p3⟩ := h1'
    obtain ⟨q1, q2, q3⟩ := h2'
    obtain ⟨u1, u2, u3⟩ := h3'
    obtain ⟨v1, v2, v3⟩ := h4'
    dsimp only at *
    rw [wrap_of (x := b1 * 16777216) (by omega) (by omega), wrap_of (x := b2 * 65536) (by omega) (by omega), wrap_of (x := b1 * 16777216 + b2 * 65536) (by omega) (by omega), wrap_of (x := b3 * 256) (by omega) (by omega), wrap_of (x := b1 * 16777216 + b2 * 65536 + b3 * 256) (by omega) (by omega), wrap_of (x := b1 * 16777216 + b2 * 65536 + b3 * 256 + b4) (by omega) (by omega), Int.tmod_eq_emod_of_nonneg (by omega)]
    exact ⟨Int.emod_nonneg _ (by omega), fun _ => Int.emod_lt_of_pos _ (by omega), by omega, v3⟩
theorem once_ok (l : List Int) (hl : l.length ≤ maxLen) (i h : Int) (hi : 0 ≤ i) (n : Int) : Ok (fun r : Bool × Int × Int => 0 ≤ r.2.1) (spec_l1Once.f l i h n) := by
  unfold spec_l1Once.f
  exact Ok.bind (below_ok l hl i h hi n) fun r hr => Ok.ret hr.2.2.2
theorem drawHead_ok (l : List Int) (hl : l.length ≤ maxLen) (i h : Int) (hi : 0 ≤ i) : Ok (fun r : Int × Int × Int => 0 ≤ r.2.1) (spec_l1DrawHead.f l i h) := by
  unfold spec_l1DrawHead.f
  refine Ok.bind (once_ok l hl i h hi 10) fun r2 h2 => Ok.ite (fun _ => ?_) (fun _ => ?_)
  · (try simp only [Option.bind_some])
    refine Ok.bind (below_ok l hl _ _ h2 7) fun r3 h3 => ?_
    exact Ok.pos h3.1 (Ok.pos (by have := h3.2.1 (by decide); simp; omega) (Ok.ret h3.2.2.2))
  · refine Ok.bind (below_ok l hl _ _ h2 60) fun r3 h3 => ?_
    exact Ok.ret h3.2.2.2
theorem head_ok (a : Int) (u l : Bool) : Ok (fun _ => True) (spec_l1Head.f a u l) := by
  unfold spec_l1Head.f
  exact Ok.ite (fun _ => Ok.ite (fun _ => Ok.ret trivial) fun _ => Ok.ret trivial) fun _ => Ok.ite (fun _ => Ok.ret trivial) fun _ => Ok.ret trivial
theorem from_ok (l : List Int) (hl : l.length ≤ maxLen) (i h : Int) (hi : 0 ≤ i) (a b : Int) : Ok (fun r : Int × Int × Int => 0 ≤ r.2.1) (spec_l1From.f l i h a b) := by
  unfold spec_l1From.f
  exact Ok.bind (below_ok l hl i h hi _) fun r hr => Ok.ret hr.2.2.2
theorem drawCells_from (l : List Int) (hl : l.length ≤ maxLen) : ∀ d (i : Nat) k (x : List S30) (j h : Int), i + d = 6 → d < k → x.length = 6 → 0 ≤ j → Ok (fun r : List S30 × Int × Int => r.1.length = 6 ∧ 0 ≤ r.2.1) (spec_l3Draw.l0 k x (i : Int) l j h) := by
  intro d
  induction d with
  | zero =>
    intro i k x j h hd hk hx hj
    obtain ⟨k, rfl⟩ : ∃ q, k = q + 1 := ⟨k - 1, by omega⟩
    simp only [spec_l3Draw.l0]
    exact Ok.neg (by omega) (Ok.ret ⟨hx, hj⟩)
  | succ d ih =>
    intro i k x j h hd hk hx hj
    obtain ⟨k, rfl⟩ : ∃ q, k = q + 1 := ⟨k - 1, by omega⟩
    simp only [spec_l3Draw.l0]
    have ew : wrap64 ((i : Int) + 1) = ((i + 1 : Nat) : Int) := by rw [wrap_of (by omega) (by omega)]; omega
    refine Ok.pos (by omega) (Ok.bind (once_ok l hl j h hj 2) fun r1 h1 => Ok.bind (below_ok l hl _ _ h1 6) fun r2 h2 => Ok.bind (once_ok l hl _ _ h2.2.2.2 5) fun r3 h3 => Ok.bind (head_ok _ _ _) fun r4 _ => Ok.pos (by omega) ?_)
    (try simp only [Option.bind_some])
    refine Ok.ite (fun _ => Ok.bind (from_ok l hl _ _ h3 (-50) 50) fun r5 h5 => ?_) (fun _ => ?_)
    · rw [ew]
      exact ih (i + 1) k _ _ _ (by omega) (by omega) (by simp [hx]) h5
    · rw [ew]
      exact ih (i + 1) k _ _ _ (by omega) (by omega) (by simp [hx]) h3
theorem drawCells_ok (l : List Int) (hl : l.length ≤ maxLen) (i h : Int) (hi : 0 ≤ i) (k : Nat) (hk : 6 < k) : Ok (fun r : List S30 × Int × Int => r.1.length = 6 ∧ 0 ≤ r.2.1) (spec_l3Draw.f k l i h) := by
  unfold spec_l3Draw.f spec_NewCells.f
  rw [if_pos (by decide)]
  exact drawCells_from l hl 6 0 k _ _ _ (by omega) hk (by simp) hi
theorem drawAny_ok (l : List Int) (hl : l.length ≤ maxLen) (i h : Int) (hi : 0 ≤ i) (k : Nat) (hk : 6 < k) : Ok (fun r : List S30 × Int × Int => r.1.length ≤ 6 ∧ 0 ≤ r.2.1) (spec_l3DrawAny.f k l i h) := by
  unfold spec_l3DrawAny.f
  refine Ok.bind (drawCells_ok l hl i h hi k hk) fun r hr => Ok.bind (once_ok l hl _ _ hr.2 12) fun r2 h2 => Ok.ite (fun _ => Ok.bind (below_ok l hl _ _ h2 6) fun r3 h3 => Ok.bind (below_ok l hl _ _ h3.2.2.2 3) fun r4 h4 => ?_) (fun _ => Ok.ret ⟨by show r.1.length ≤ 6; omega, h2⟩)
  have h36 := h3.2.1 (by decide)
  refine Ok.ite (fun _ => Ok.bind (drawHead_ok l hl _ _ h4.2.2.2) fun r5 h5 => Ok.pos h3.1 (Ok.pos (by omega) (Ok.ret ⟨by simp; omega, h5⟩))) (fun _ => Ok.ite (fun _ => ?_) (fun _ => Ok.ite (fun _ => Ok.pos (by omega) (Ok.ret ⟨by simp; omega, h4.2.2.2⟩)) (fun _ => Ok.ret ⟨by show r.1.length ≤ 6; omega, h4.2.2.2⟩)))
  (try simp only [Option.bind_some])
  exact Ok.bind (below_ok l hl _ _ h4.2.2.2 4) fun r5 h5 => Ok.pos h5.1 (Ok.pos (by have := h5.2.1 (by decide); simp; omega) (Ok.pos h3.1 (Ok.pos (by omega) (Ok.ret ⟨by simp; omega, h5.2.2.2⟩))))
theorem slot_any (a : Int) : Ok (fun r => r = true → 0 ≤ a ∧ a ≤ 5) (spec_l1Slot.f a) :=
  Ok.eq (show spec_l1Slot.f a = some (decide (0 ≤ a ∧ a ≤ 5)) by simp only [spec_l1Slot.f, in_, Option.bind_some]) (fun h => of_decide_eq_true h)
theorem headok_any (a : Int) : Ok (fun _ => True) (spec_HeadOk.f a) :=
  Ok.eq (show spec_HeadOk.f a = some (decide (0 ≤ a ∧ a ≤ 4000003)) by simp only [spec_HeadOk.f, in_, Option.bind_some]) trivial
theorem ver_any (a : Int) : Ok (fun _ => True) (spec_Version.f a) := by
  unfold spec_Version.f
  exact Ok.bind (headok_any a) fun r _ => Ok.ite (fun _ => Ok.ret trivial) (fun _ => Ok.ret trivial)
theorem drawSet_ok (l : List Int) (hl : l.length ≤ maxLen) (i h : Int) (hi : 0 ≤ i) (a : Int) : Ok (fun r : Int × Int × Int × Bool × Int × Int × Int => 0 ≤ r.2.2.2.2.2.1) (spec_l2DrawSet.f l i h a) := by
  unfold spec_l2DrawSet.f
  refine Ok.bind (below_ok l hl i h hi 6) fun r1 h1 => Ok.bind (from_ok l hl _ _ h1.2.2.2 (-50) 50) fun r2 h2 => Ok.bind (once_ok l hl _ _ h2 2) fun r3 h3 => Ok.bind (below_ok l hl _ _ h3 6) fun r4 h4 => Ok.bind (once_ok l hl _ _ h4.2.2.2 30) fun r5 h5 => Ok.ite (fun _ => Ok.bind (below_ok l hl _ _ h5 4) fun r6 h6 => ?_) (fun _ => Ok.ret h5)
  refine Ok.ite (fun _ => ?_) (fun _ => Ok.ite (fun _ => ?_) (fun _ => Ok.ite (fun _ => ?_) (fun _ => Ok.ite (fun _ => ?_) (fun _ => Ok.ret h6.2.2.2))))
  all_goals (try simp only [Option.bind_some])
  · exact Ok.bind (below_ok l hl _ _ h6.2.2.2 4) fun r7 h7 => Ok.pos h7.1 (Ok.pos (by have := h7.2.1 (by decide); simp; omega) (Ok.ret h7.2.2.2))
  · exact Ok.bind (below_ok l hl _ _ h6.2.2.2 2) fun r7 h7 => Ok.pos h7.1 (Ok.pos (by have := h7.2.1 (by decide); simp; omega) (Ok.ret h7.2.2.2))
  · exact Ok.bind (below_ok l hl _ _ h6.2.2.2 4) fun r7 h7 => Ok.pos h7.1 (Ok.pos (by have := h7.2.1 (by decide); simp; omega) (Ok.ret h7.2.2.2))
  · exact Ok.bind (below_ok l hl _ _ h6.2.2.2 3) fun r7 h7 => Ok.pos h7.1 (Ok.pos (by have := h7.2.1 (by decide); simp; omega) (Ok.ret h7.2.2.2))
theorem drawSets_from (l : List Int) (hl : l.length ≤ maxLen) (a : Int) : ∀ d (i : Nat) k (x : List S59) (j h : Int), i + d = 6 → d < k → x.length ≤ i → 0 ≤ j → Ok (fun r : List S59 × Int × Int => r.1.length ≤ 7 ∧ 0 ≤ r.2.1) (spec_l2DrawSets.l0 k a x (i : Int) l j h) := by
  intro d
  induction d with
  | zero =>
    intro i k x j h hd hk hx hj
    obtain ⟨k, rfl⟩ : ∃ q, k = q + 1 := ⟨k - 1, by omega⟩
    simp only [spec_l2DrawSets.l0]
    refine Ok.neg (by omega) (Ok.bind (once_ok l hl j h hj 20) fun r1 h1 => Ok.ite (fun _ => Ok.ite (fun hgt => Ok.pos (by omega) (Ok.pos (by omega) (Ok.ret ⟨?_, h1⟩))) (fun _ => Ok.ret ⟨?_, h1⟩)) (fun _ => Ok.ret ⟨?_, h1⟩))
    · simp; omega
    · show x.length ≤ 7; omega
    · show x.length ≤ 7; omega
  | succ d ih =>
    intro i k x j h hd hk hx hj
    obtain ⟨k, rfl⟩ : ∃ q, k = q + 1 := ⟨k - 1, by omega⟩
    have ew : wrap64 ((i : Int) + 1) = ((i + 1 : Nat) : Int) := by rw [wrap_of (by omega) (by omega)]; omega
    simp only [spec_l2DrawSets.l0, ew]
    refine Ok.pos (by omega) (Ok.bind (once_ok l hl j h hj 3) fun r1 h1 => Ok.ite (fun _ => Ok.bind (drawSet_ok l hl _ _ h1 a) fun r2 h2 => Ok.bind (slot_any _) fun r3 _ => Ok.ite (fun _ => Ok.pos (by omega) ?_) (fun _ => Ok.pos (by omega) ?_)) (fun _ => ?_))
    · exact ih (i + 1) k _ _ _ (by omega) (by omega) (by simp; omega) h2
    · exact ih (i + 1) k _ _ _ (by omega) (by omega) (by simp; omega) h2
    · exact ih (i + 1) k _ _ _ (by omega) (by omega) (by omega) h1
theorem draw3Sets_from (l : List Int) (hl : l.length ≤ maxLen) (c : List S30) : ∀ d (i : Nat) k (x : List S59) (j h : Int), i + d = x.length → d < k → x.length ≤ 7 → 0 ≤ j → Ok (fun r : List S59 × Int × Int => r.1.length ≤ 7 ∧ 0 ≤ r.2.1) (spec_l3DrawSets.l0 k c x (i : Int) l j h) := by
  intro d
  induction d with
  | zero =>
    intro i k x j h hd hk hx hj
    obtain ⟨k, rfl⟩ : ∃ q, k = q + 1 := ⟨k - 1, by omega⟩
    simp only [spec_l3DrawSets.l0]
    exact Ok.neg (by omega) (Ok.ret ⟨by show x.length ≤ 7; omega, hj⟩)
  | succ d ih =>
    intro i k x j h hd hk hx hj
    obtain ⟨k, rfl⟩ : ∃ q, k = q + 1 := ⟨k - 1, by omega⟩
    have ew : wrap64 ((i : Int) + 1) = ((i + 1 : Nat) : Int) := by rw [wrap_of (by omega) (by omega)]; omega
    simp only [spec_l3DrawSets.l0, ew]
    refine Ok.pos (by omega) (Ok.pos (by omega) (Ok.bind (slot_any _) fun r1 h1 => Ok.ite (fun hs => Ok.ite (fun _ => Ok.pos (h1 hs).1 (Ok.bind (headok_any _) fun r2 _ => Ok.ite (fun _ => Ok.bind (once_ok l hl j h hj 8) fun r3 h3 => Ok.ite (fun _ => ?_) (fun _ => Ok.bind (ver_any _) fun r4 _ => ?_)) (fun _ => ?_))) (fun _ => ?_)) (fun _ => ?_)))
    · exact ih (i + 1) k x _ _ (by omega) (by omega) hx h3
    · exact ih (i + 1) k _ _ _ (by rw [List.length_set]; omega) (by omega) (by rw [List.length_set]; exact hx) h3
    · exact ih (i + 1) k x _ _ (by omega) (by omega) hx hj
    · exact ih (i + 1) k x _ _ (by omega) (by omega) hx hj
    · exact ih (i + 1) k x _ _ (by omega) (by omega) hx hj
theorem draw3Sets_ok (l : List Int) (hl : l.length ≤ maxLen) (c : List S30) (i h : Int) (hi : 0 ≤ i) (k : Nat) (hk : 10 < k) : Ok (fun r : List S59 × Int × Int => r.1.length ≤ 7 ∧ 0 ≤ r.2.1) (spec_l3DrawSets.f k l i h c) := by
  unfold spec_l3DrawSets.f spec_l2DrawSets.f
  exact Ok.bind (drawSets_from l hl 1 6 0 k [] i h (by omega) (by omega) (by simp) hi) fun r hr => draw3Sets_from l hl c r.1.length 0 k r.1 _ _ (by omega) (by have := hr.1; omega) hr.1 hr.2
theorem like_ok (l : List S30) (hl : l.length ≤ 9000000000000) (k : Nat) (hk : l.length < k) : laws_likeCells.f k l l = some true := by
  unfold laws_likeCells.f
  rw [if_pos rfl]
  exact loop_to (fun k (s : Int) => laws_likeCells.l0 k l l s) (fun i s => s = (i : Int)) l.length 0 true
    (fun k i s hk hi hP => ⟨wrap64 (s + 1), by rw [hP, wrap_of (by omega) (by omega)]; omega, by
      show laws_likeCells.l0 (k + 1) l l s = _
      simp only [laws_likeCells.l0]
      rw [if_pos (by omega), if_pos (by omega), if_pos (by omega), if_neg (by simp)]⟩)
    (fun k s _ hP => by
      show laws_likeCells.l0 (k + 1) l l s = _
      simp only [laws_likeCells.l0]
      rw [if_neg (by omega)]) 0 k 0 (by omega) (by omega) rfl
theorem like_nil (c : List S30) (k : Nat) (hk : 0 < k) : ∃ b, laws_likeCells.f k [] c = some b := by
  unfold laws_likeCells.f
  by_cases h : (([] : List S30).length : Int) = (c.length : Int)
  · rw [if_pos h]
    obtain ⟨k, rfl⟩ : ∃ q, k = q + 1 := ⟨k - 1, by omega⟩
    simp only [laws_likeCells.l0]
    rw [if_neg (by simp)]
    exact ⟨_, rfl⟩
  · rw [if_neg h]
    exact ⟨_, rfl⟩
theorem usd (a : Int) : impl_Used.f a = some (decide (0 ≤ a ∧ a ≤ 4000003 ∧ a / 2 % 2 = 1)) := by
  simp only [impl_Used.f, impl_isHead.f, within_, Option.bind_some, and2]
  by_cases h : 0 ≤ a ∧ a ≤ 4000003
  · rw [if_pos (by simpa using h)]
    rcases (by omega : a / 2 % 2 = 0 ∨ a / 2 % 2 = 1) with e | e <;> rw [e] <;> simp [h]
  · rw [if_neg (by simpa using h)]
    simp; omega
theorem lkd (a : Int) : impl_Locked.f a = some (decide (0 ≤ a ∧ a ≤ 4000003 ∧ a % 2 = 1)) := by
  simp only [impl_Locked.f, impl_isHead.f, within_, Option.bind_some, and1]
  by_cases h : 0 ≤ a ∧ a ≤ 4000003
  · rw [if_pos (by simpa using h)]
    rcases (by omega : a % 2 = 0 ∨ a % 2 = 1) with e | e <;> rw [e] <;> simp [h]
  · rw [if_neg (by simpa using h)]
    simp; omega
theorem drawInstall_ok (l : List Int) (hl : l.length ≤ maxLen) (k : Nat) (hk : l.length < k) (hk2 : 40 < k) : Ok (fun r : List S30 × List S59 => r.1.length ≤ 6 ∧ r.2.length ≤ 7) (spec_DrawInstall.f k l) := by
  unfold spec_DrawInstall.f
  obtain ⟨h, e⟩ := new_ok l hl k hk
  rw [e]
  simp only [Option.bind_some]
  exact Ok.bind (drawAny_ok l hl 0 h (Int.le_refl 0) k (by omega)) fun r1 h1 => Ok.bind (draw3Sets_ok l hl r1.1 _ _ h1.2 k (by omega)) fun r hr => Ok.ret ⟨h1.1, hr.1⟩
theorem ver6 (a : Int) (h : 0 ≤ a ∧ a ≤ 4000003) : impl_Version.f a = some (a / 4) := by
  simp only [impl_Version.f, impl_isHead.f, within_, Option.bind_some]
  rw [if_pos (by simpa using h), quarter a h.1 h.2]
theorem install_cases (l : List S30) (s : List S59) (hl : l.length ≤ 1048576) (hs : s.length ≤ 1048576) : (∀ k, 10000000 < k → spec_Install.f (k + 1) l s = impl_Install.f (k + 1) l s) ∧ ((∀ k, 10000000 < k → impl_Install.f (k + 1) l s = some ([], false)) ∨ (okCs l = true ∧ okSs s 0 s.length = true ∧ ∀ k, 10000000 < k → impl_Install.f (k + 1) l s = some (inL s 0 s.length l, true))) := by
  have ea : ∀ k, 10000000 < k → spec_Install.f (k + 1) l s = (if okCs l = true then (if okSs s 0 s.length = true then (spec_l3Install.l0 k l s 0).bind fun z => some (z, true) else some ([], false)) else some ([], false)) ∧ impl_Install.f (k + 1) l s = (if okCs l = true then (if okSs s 0 s.length = true then (impl_install.l0 k l s (s.length : Int) 0).bind fun z => some (z, true) else some ([], false)) else some ([], false)) := fun k hk => by
    simp only [spec_Install.f, impl_Install.f, spec_cells l hl (k + 1) (by omega), impl_cells, spec_sets s hs (k + 1) (by omega), impl_sets s hs (k + 1) (by omega), Option.bind_some, spec_Install.j0, impl_Install.j0, copy_ok l hl, clone_ok l hl, spec_l3Install.f, impl_install.f]
    by_cases h : okCs l = true <;> by_cases h2 : okSs s 0 s.length = true <;> simp [h, h2]
  by_cases h : okCs l = true
  · by_cases h2 : okSs s 0 s.length = true
    · obtain ⟨_, hr⟩ := in_fold s (fun j hj => okSs_at s s.length 0 h2 j (by omega) (by omega)) hs s.length 0 l (by omega) (inv6_of h)
      rw [show ((0 : Nat) : Int) = 0 from rfl] at hr
      refine ⟨fun k hk => ?_, .inr ⟨h, h2, fun k hk => ?_⟩⟩
      · rw [(ea k hk).1, (ea k hk).2, (hr k (by omega)).1, (hr k (by omega)).2]
      · rw [(ea k hk).2, if_pos h, if_pos h2, (hr k (by omega)).2]; rfl
    · exact ⟨fun k hk => by rw [(ea k hk).1, (ea k hk).2]; simp [h, h2], .inl fun k hk => by rw [(ea k hk).2]; simp [h, h2]⟩
  · exact ⟨fun k hk => by rw [(ea k hk).1, (ea k hk).2]; simp [h], .inl fun k hk => by rw [(ea k hk).2]; simp [h]⟩
theorem inst_cells (l : List S30) (s : List S59) (h : okCs l = true) (hs : ∀ j : Nat, j < s.length → okS (rd_T59 s (j : Int)) = true) (hr : ∀ a b : Nat, a < b → b < s.length → (rd_T59 s (a : Int)).f1 < (rd_T59 s (b : Int)).f1) (hlen : (inL s 0 s.length l).length = 6) : okCs (inL s 0 s.length l) = true := by
  have h6 := okCs_len h
  unfold okCs
  rw [Bool.and_eq_true, List.all_eq_true]
  refine ⟨decide_eq_true hlen, fun x hx => ?_⟩
  obtain ⟨n, hn, rfl⟩ := List.mem_iff_getElem.1 hx
  obtain ⟨a1, a2⟩ := inL_at s hs hr s.length 0 l (by omega) h6 (n : Int)
  rw [rd30_get hn, rd30_get (show n < l.length by omega)] at a1 a2
  unfold okCs at h
  rw [Bool.and_eq_true, List.all_eq_true] at h
  have hc := h.2 l[n] (List.getElem_mem _)
  by_cases hi : ∃ t : Nat, 0 ≤ t ∧ t < 0 + s.length ∧ (rd_T59 s (t : Int)).f1.toNat = (n : Int).toNat
  · obtain ⟨t, c1, c2, c3⟩ := hi
    rw [a1 t c1 c2 c3]
    unfold stepC
    by_cases h1 : l[n].f0 / 4 > (rd_T59 s (t : Int)).f4
    · rw [if_pos h1]; exact hc
    · rw [if_neg h1]; exact okC_cellOf (hs t (by omega))
  · rw [a2 (fun t c1 c2 c3 => hi ⟨t, c1, c2, c3⟩)]
    exact hc
theorem inst_rounds (c r : List S30) (s : List S59) (hs : s.length ≤ 7) (hc : inv6 c) (hr6 : inv6 r) (hr : okCs r = true) (hst : ∀ t : Nat, t < s.length → okS (rd_T59 s (t : Int)) = true ∧ rd_T30 r (rd_T59 s (t : Int)).f1 = stepC (rd_T59 s (t : Int)) (rd_T30 c (rd_T59 s (t : Int)).f1)) : ∀ d (i : Nat) k, i + d = s.length → 100 + 2 * d < k → laws_FnInstalled.l0 k c s r r true (i : Int) = some true := by
  intro d
  induction d with
  | zero =>
    intro i k hd hk
    obtain ⟨k, rfl⟩ : ∃ q, k = q + 1 := ⟨k - 1, by omega⟩
    simp only [laws_FnInstalled.l0]
    have := hr6.1
    rw [if_neg (by omega), like_ok r (by omega) k (by omega)]
    simp only [Option.bind_some, impl_CellsOk.f, impl_cells, hr]
    simp
  | succ d ih =>
    intro i k hd hk
    obtain ⟨k, rfl⟩ : ∃ q, k = q + 1 + 1 := ⟨k - 2, by omega⟩
    obtain ⟨h1, h2⟩ := hst i (by omega)
    have ho := okS_slot h1
    have hv := okS_ver h1
    have hhr := hr6.2 (rd_T59 s (i : Int)).f1
    have hhc := hc.2 (rd_T59 s (i : Int)).f1
    have hc6 := hc.1
    have hr6' := hr6.1
    have e := ih (i + 1) k (by omega) (by omega)
    rw [show ((i + 1 : Nat) : Int) = (i : Int) + 1 from by omega] at e
    have hj : laws_FnInstalled.j2 (k + 1) c s r r true (i : Int) false = some true := by
      simp only [laws_FnInstalled.j2, Bool.false_eq_true, if_false]
      rw [wrap_of (by omega) (by omega), e]
    have hver : ¬ (rd_T30 r (rd_T59 s (i : Int)).f1).f0 / 4 ≤ (rd_T59 s (i : Int)).f4 := by
      rw [h2]
      unfold stepC
      by_cases q : (rd_T30 c (rd_T59 s (i : Int)).f1).f0 / 4 > (rd_T59 s (i : Int)).f4
      · rw [if_pos q]; omega
      · rw [if_neg q]
        show ¬ (4 * ((rd_T59 s (i : Int)).f4 + 1) + (if (rd_T59 s (i : Int)).f3 = true then 2 else 0)) / 4 ≤ _
        cases (rd_T59 s (i : Int)).f3 <;> simp <;> omega
    simp only [laws_FnInstalled.l0, if_pos (show (i : Int) < (s.length : Int) by omega), if_pos (show (0 : Int) ≤ (i : Int) by omega), if_pos ho.1, if_pos (show (rd_T59 s (i : Int)).f1 < (r.length : Int) by omega), if_pos (show (rd_T59 s (i : Int)).f1 < (c.length : Int) by omega), ver6 _ hhr, ver6 _ hhc, Option.bind_some, if_neg hver, hj]
    by_cases q : (rd_T30 c (rd_T59 s (i : Int)).f1).f0 / 4 = (rd_T59 s (i : Int)).f4
    · rw [if_pos q]
      have hre : rd_T30 r (rd_T59 s (i : Int)).f1 = cellOf (rd_T59 s (i : Int)) := by rw [h2]; unfold stepC; rw [if_neg (by omega)]
      simp only [lkd, usd, Option.bind_some, hre]
      have hh := cellOf_head hv
      cases hu : (rd_T59 s (i : Int)).f3
      · have e0 : (cellOf (rd_T59 s (i : Int))).f0 = 4 * ((rd_T59 s (i : Int)).f4 + 1) := by unfold cellOf; simp [hu]
        rw [e0] at hh ⊢
        have x1 : ¬ (4 * ((rd_T59 s (i : Int)).f4 + 1) % 2 = 1) := by omega
        have x2 : ¬ (4 * ((rd_T59 s (i : Int)).f4 + 1) / 2 % 2 = 1) := by omega
        simp [x1, x2, hj]
      · have e0 : (cellOf (rd_T59 s (i : Int))).f0 = 4 * ((rd_T59 s (i : Int)).f4 + 1) + 2 := by unfold cellOf; simp [hu]
        have e1 : (cellOf (rd_T59 s (i : Int))).f1 = (rd_T59 s (i : Int)).f2 := by unfold cellOf; simp [hu]
        rw [e0] at hh ⊢
        have x1 : ¬ ((4 * ((rd_T59 s (i : Int)).f4 + 1) + 2) % 2 = 1) := by omega
        have x2 : (4 * ((rd_T59 s (i : Int)).f4 + 1) + 2) / 2 % 2 = 1 := by omega
        simp only [e1, decide_eq_true (show 0 ≤ 4 * ((rd_T59 s (i : Int)).f4 + 1) + 2 ∧ 4 * ((rd_T59 s (i : Int)).f4 + 1) + 2 ≤ 4000003 ∧ (4 * ((rd_T59 s (i : Int)).f4 + 1) + 2) / 2 % 2 = 1 from ⟨hh.1, hh.2, x2⟩), decide_eq_false (show ¬ (0 ≤ 4 * ((rd_T59 s (i : Int)).f4 + 1) + 2 ∧ 4 * ((rd_T59 s (i : Int)).f4 + 1) + 2 ≤ 4000003 ∧ (4 * ((rd_T59 s (i : Int)).f4 + 1) + 2) % 2 = 1) from fun h => x1 h.2.2), bne_self_eq_false, hj]
        simp
    · rw [if_neg q]
theorem FnInstalled : SFnInstalled.Pure := by
  intro l hl _
  obtain ⟨K, hK⟩ : ∃ K, 20000000 < K := ⟨_, Nat.lt_succ_self _⟩
  refine ⟨K + 1 + 1, ?_⟩
  unfold laws_FnInstalled.f
  simp only [laws_big.f, Option.bind_some]
  by_cases hb : (l.length : Int) > 4096
  · rw [if_pos (by simpa using hb)]
  rw [if_neg (by simpa using hb)]
  obtain ⟨⟨c, s⟩, e, hc, hs⟩ := drawInstall_ok l hl (K + 1 + 1) (by omega) (by omega)
  dsimp only at hc hs
  rw [e]
  simp only [Option.bind_some]
  obtain ⟨hsp, hcase⟩ := install_cases c s (by omega) (by omega)
  rw [hsp (K + 1) (by omega)]
  rcases hcase with hf | ⟨h1, h2, ht⟩
  · rw [hf (K + 1) (by omega)]
    simp only [Option.bind_some, bne_self_eq_false, Bool.false_eq_true, if_false, like_ok [] (by simp) (K + 1 + 1) (by simp), Bool.not_true, laws_FnInstalled.j0]
    simp
  · have hss : ∀ j : Nat, j < s.length → okS (rd_T59 s (j : Int)) = true := fun j hj => okSs_at s s.length 0 h2 j (by omega) (by omega)
    have hrise : ∀ a b : Nat, a < b → b < s.length → (rd_T59 s (a : Int)).f1 < (rd_T59 s (b : Int)).f1 := fun a b h3 h4 => slots_rise s s.length 0 h2 a b (by omega) h3 (by omega)
    have hi := inv6_of h1
    obtain ⟨hri, _⟩ := in_fold s hss (by omega) s.length 0 c (by omega) hi
    have hr := inst_cells c s h1 hss hrise hri.1
    have hat := inL_at s hss hrise s.length 0 c (by omega) hi.1
    have htwice : inL s 0 s.length (inL s 0 s.length c) = inL s 0 s.length c := by
      obtain ⟨hri2, _⟩ := in_fold s hss (by omega) s.length 0 (inL s 0 s.length c) (by omega) hri
      refine ext30 hri2.1 hri.1 fun j => ?_
      obtain ⟨b1, b2⟩ := inL_at s hss hrise s.length 0 (inL s 0 s.length c) (by omega) hri.1 j
      by_cases hin : ∃ t : Nat, 0 ≤ t ∧ t < 0 + s.length ∧ (rd_T59 s (t : Int)).f1.toNat = j.toNat
      · obtain ⟨t, c1, c2, c3⟩ := hin
        rw [b1 t c1 c2 c3, (hat j).1 t c1 c2 c3]
        exact stepC_twice _ _ (okS_ver (hss t (by omega)))
      · exact b2 (fun t c1 c2 c3 => hin ⟨t, c1, c2, c3⟩)
    obtain ⟨_, hcase2⟩ := install_cases (inL s 0 s.length c) s (by rw [hri.1]; omega) (by omega)
    have ht2 : impl_Install.f (K + 1) (inL s 0 s.length c) s = some (inL s 0 s.length c, true) := by
      rcases hcase2 with hf | ⟨_, _, ht2⟩
      · exfalso
        have hx := hf K (by omega)
        simp only [impl_Install.f, impl_cells, hr, impl_sets s (by omega) (K + 1) (by omega), h2, Option.bind_some, if_true, impl_Install.j0, Bool.not_true, Bool.false_eq_true, if_false, clone_ok _ (show (inL s 0 s.length c).length ≤ 1048576 by rw [hri.1]; omega), impl_install.f] at hx
        obtain ⟨_, hy⟩ := in_fold s hss (by omega) s.length 0 (inL s 0 s.length c) (by omega) hri
        have := (hy K (by omega)).2
        rw [show ((0 : Nat) : Int) = 0 from rfl] at this
        rw [this] at hx
        simp at hx
      · rw [ht2 K (by omega), htwice]
    rw [ht (K + 1) (by omega)]
    have hl6 := hri.1
    simp only [Option.bind_some, bne_self_eq_false, Bool.false_eq_true, if_false, like_ok (inL s 0 s.length c) (by omega) (K + 1 + 1) (by omega), Bool.not_true, laws_FnInstalled.j0, if_true, ht2]
    have := inst_rounds c (inL s 0 s.length c) s hs hi hri hr (fun t ht3 => ⟨hss t ht3, (hat _).1 t (by omega) (by omega) rfl⟩) s.length 0 (K + 1) (by omega) (by omega)
    rw [show ((0 : Nat) : Int) = 0 from rfl] at this
    simpa using this
end Go.Proofs.Ytgdfbjmjgegicaa.Pure
