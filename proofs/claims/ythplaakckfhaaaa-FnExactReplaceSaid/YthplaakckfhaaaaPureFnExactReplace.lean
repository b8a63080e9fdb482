/- Proved: the law FnExactReplace answers true at every argument: the program answers as the reference, wherever the law's own guards let the argument in. Conditions: none beyond the given row's. -/
import Derived.Test.YthplaakckfhaaaaSFnExactReplace
import Derived.Test.YthplaakckfhaaaaGenRp
namespace Go.Proofs.Ythplaakckfhaaaa.Pure
open Go.RowKit Go.Proofs.Ythplaakckfhaaaa.XRp Go.Proofs.Ythplaakckfhaaaa.Opened Go.Proofs.YthplaakckfhaaaaW.PrintWords Go.Proofs.YthplaakckfhaaaaW.PrintLast Go.Proofs.Ythplaakckfhaaaa.SFnExactReplace Go.Proofs.Ythplaakckfhaaaa.Gen
set_option linter.unusedSimpArgs false
set_option linter.unusedVariables false
open Go.Proofs.Ythplaakckfhaaaa.Aid
theorem in_ (a b c : Int) : spec_l1In.f a b c = some (decide (b ≤ a ∧ a ≤ c)) := by
  unfold spec_l1In.f
  by_cases h : a ≥ b <;> simp [h]
theorem within_ (a b c : Int) : impl_within.f a b c = some (decide (b ≤ a ∧ a ≤ c)) := by
  unfold impl_within.f
  by_cases h : a ≥ b <;> simp [h]
theorem rd92_get {l : List S92} {i : Nat} (h : i < l.length) : rd_T92 l (i : Int) = l[i] := by
  unfold rd_T92
  rw [Int.toNat_natCast, List.getD_eq_getElem?_getD, List.getElem?_eq_getElem h]
  rfl
theorem rd92_set {l : List S92} {i : Nat} (h : i < l.length) (v : S92) : rd_T92 (l.set i v) (i : Int) = v := by
  rw [rd92_get (by rw [List.length_set]; exact h)]
  simp
theorem rd110_get {l : List S110} {i : Nat} (h : i < l.length) : rd_T110 l (i : Int) = l[i] := by
  unfold rd_T110
  rw [Int.toNat_natCast, List.getD_eq_getElem?_getD, List.getElem?_eq_getElem h]
  rfl
theorem rd110_set {l : List S110} {i : Nat} (h : i < l.length) (v : S110) : rd_T110 (l.set i v) (i : Int) = v := by
  rw [rd110_get (by rw [List.length_set]; exact h)]
  simp
theorem rd127_get {l : List S127} {i : Nat} (h : i < l.length) : rd_T127 l (i : Int) = l[i] := by
  unfold rd_T127
  rw [Int.toNat_natCast, List.getD_eq_getElem?_getD, List.getElem?_eq_getElem h]
  rfl
theorem rd127_set {l : List S127} {i : Nat} (h : i < l.length) (v : S127) : rd_T127 (l.set i v) (i : Int) = v := by
  rw [rd127_get (by rw [List.length_set]; exact h)]
  simp
theorem rd135_get {l : List S135} {i : Nat} (h : i < l.length) : rd_T135 l (i : Int) = l[i] := by
  unfold rd_T135
  rw [Int.toNat_natCast, List.getD_eq_getElem?_getD, List.getElem?_eq_getElem h]
  rfl
theorem rd135_set {l : List S135} {i : Nat} (h : i < l.length) (v : S135) : rd_T135 (l.set i v) (i : Int) = v := by
  rw [rd135_get (by rw [List.length_set]; exact h)]
  simp
theorem rd45_get {l : List S45} {i : Nat} (h : i < l.length) : rd_T45 l (i : Int) = l[i] := by
  unfold rd_T45
  rw [Int.toNat_natCast, List.getD_eq_getElem?_getD, List.getElem?_eq_getElem h]
  rfl
theorem rd45_set {l : List S45} {i : Nat} (h : i < l.length) (v : S45) : rd_T45 (l.set i v) (i : Int) = v := by
  rw [rd45_get (by rw [List.length_set]; exact h)]
  simp
theorem rd53_get {l : List S53} {i : Nat} (h : i < l.length) : rd_T53 l (i : Int) = l[i] := by
  unfold rd_T53
  rw [Int.toNat_natCast, List.getD_eq_getElem?_getD, List.getElem?_eq_getElem h]
  rfl
theorem rd53_set {l : List S53} {i : Nat} (h : i < l.length) (v : S53) : rd_T53 (l.set i v) (i : Int) = v := by
  rw [rd53_get (by rw [List.length_set]; exact h)]
  simp
theorem rd79_get {l : List S79} {i : Nat} (h : i < l.length) : rd_T79 l (i : Int) = l[i] := by
  unfold rd_T79
  rw [Int.toNat_natCast, List.getD_eq_getElem?_getD, List.getElem?_eq_getElem h]
  rfl
theorem rd79_set {l : List S79} {i : Nat} (h : i < l.length) (v : S79) : rd_T79 (l.set i v) (i : Int) = v := by
  rw [rd79_get (by rw [List.length_set]; exact h)]
  simp
theorem rd123_get {l : List S123} {i : Nat} (h : i < l.length) : rd_T123 l (i : Int) = l[i] := by
  unfold rd_T123
  rw [Int.toNat_natCast, List.getD_eq_getElem?_getD, List.getElem?_eq_getElem h]
  rfl
theorem rd123_set {l : List S123} {i : Nat} (h : i < l.length) (v : S123) : rd_T123 (l.set i v) (i : Int) = v := by
  rw [rd123_get (by rw [List.length_set]; exact h)]
  simp
/-- A cell is right. -/
def okC (c : S92) : Bool := decide (0 ≤ c.f0 ∧ c.f0 ≤ 4000003) && (decide (-1000000000 ≤ c.f1 ∧ c.f1 ≤ 1000000000) && (decide (c.f0 / 2 % 2 = 1) || decide (c.f1 = 0)))
theorem spec_used (a : Int) : spec_Used.f a = some (decide (0 ≤ a ∧ a ≤ 4000003) && decide (a / 2 % 2 = 1)) := by
  simp only [spec_Used.f, spec_HeadOk.f, in_, Option.bind_some]
  by_cases h : 0 ≤ a ∧ a ≤ 4000003
  · rw [if_pos (by simpa using h), Int.tdiv_eq_ediv_of_nonneg h.1, wrap_of (by omega) (by omega), Int.tmod_eq_emod_of_nonneg (by omega)]
    simp [h]
    rfl
  · rw [if_neg (by simpa using h)]
    simp [h]
theorem spec_cells_from (l : List S92) (hl : l.length ≤ 1048576) : ∀ d i k, i + d = l.length → d < k → spec_CellsOk.l0 k l (i : Int) = some ((l.drop i).all okC) := by
  intro d
  induction d with
  | zero =>
    intro i k hd hk
    obtain ⟨k, rfl⟩ : ∃ m, k = m + 1 := ⟨k - 1, by omega⟩
    simp only [spec_CellsOk.l0]
    rw [if_neg (by omega), List.drop_of_length_le (by omega)]
    rfl
  | succ d ih =>
    intro i k hd hk
    obtain ⟨k, rfl⟩ : ∃ m, k = m + 1 := ⟨k - 1, by omega⟩
    simp only [spec_CellsOk.l0]
    rw [if_pos (by omega), if_pos (by omega), rd92_get (show i < l.length by omega), wrap_of (by omega) (by omega), List.drop_eq_getElem_cons (show i < l.length by omega)]
    have e := ih (i + 1) k (by omega) (by omega)
    rw [show ((i + 1 : Nat) : Int) = (i : Int) + 1 from by omega] at e
    rw [e]
    simp only [spec_HeadOk.f, spec_l1Value.f, in_, spec_used, Option.bind_some, List.all_cons, okC]
    by_cases h1 : 0 ≤ l[i].f0 ∧ l[i].f0 ≤ 4000003 <;> by_cases h2 : -1000000000 ≤ l[i].f1 ∧ l[i].f1 ≤ 1000000000 <;> by_cases h3 : l[i].f0 / 2 % 2 = 1 <;> by_cases h4 : l[i].f1 = 0 <;> simp [h1, h2, h3, h4]
def okCs (l : List S92) : Bool := decide (l.length = 6) && l.all okC
theorem spec_cells (l : List S92) (hl : l.length ≤ 1048576) (k : Nat) (hk : l.length < k) : spec_CellsOk.f k l = some (okCs l) := by
  unfold spec_CellsOk.f okCs
  by_cases h : l.length = 6
  · rw [if_pos (by omega)]
    have e := spec_cells_from l hl l.length 0 k (by omega) hk
    rw [show ((0 : Nat) : Int) = 0 from rfl] at e
    rw [e]
    simp [h]
  · rw [if_neg (by omega)]
    simp [h]
theorem impl_cell (x : S92) : impl_areCells_1.f x.f0 x.f1 = some (!okC x) := by
  simp only [impl_areCells_1.f, impl_isHead.f, impl_isValue.f, within_, Option.bind_some, okC]
  by_cases h1 : 0 ≤ x.f0 ∧ x.f0 ≤ 4000003
  · by_cases h2 : -1000000000 ≤ x.f1 ∧ x.f1 ≤ 1000000000
    · rw [if_pos (by simpa using h1), if_pos (by simpa using h2), and2]
      by_cases h3 : x.f0 / 2 % 2 = 1
      · rw [if_neg (by omega)]
        simp [h1, h2, h3]
      · rw [if_pos (by omega)]
        by_cases h4 : x.f1 = 0 <;> simp [h1, h2, h3, h4]
    · rw [if_pos (by simpa using h1), if_neg (by simpa using h2)]
      simp [h1, h2]
  · rw [if_neg (by simpa using h1)]
    simp [h1]
theorem impl_cells (l : List S92) : impl_areCells.f l = some (okCs l) := by
  unfold impl_areCells.f okCs
  by_cases h : l.length = 6
  · rw [if_pos (by omega)]
    obtain ⟨r, e, hr⟩ := idx_total (fun x : S92 => impl_areCells_1.f x.f0 x.f1) (fun x => !okC x) l (fun x _ => impl_cell x) 0
    simp only [impl_Cell_122.f, e, Option.bind_some, hr]
    rw [← List.not_all_eq_any_not]
    simp [h]
  · rw [if_neg (by omega)]
    simp [h]
def okS (x : S127) : Bool := decide (0 ≤ x.f0 ∧ x.f0 ≤ 5) && (decide (0 ≤ x.f1 ∧ x.f1 ≤ 5) && (decide (-1000000000 ≤ x.f2 ∧ x.f2 ≤ 1000000000) && decide (0 ≤ x.f4 ∧ x.f4 ≤ 999999)))
theorem spec_set (x : S127) : spec_SetOk.f x.f0 x.f1 x.f2 x.f3 x.f4 = some (okS x) := by
  simp only [spec_SetOk.f, spec_l1Region.f, spec_l1Slot.f, spec_l1Value.f, in_, Option.bind_some, okS]
  by_cases h1 : 0 ≤ x.f0 ∧ x.f0 ≤ 5 <;> by_cases h2 : 0 ≤ x.f1 ∧ x.f1 ≤ 5 <;> by_cases h3 : -1000000000 ≤ x.f2 ∧ x.f2 ≤ 1000000000 <;> simp [h1, h2, h3]
theorem impl_set (x : S127) : impl_isSet.f x.f0 x.f1 x.f2 x.f3 x.f4 = some (okS x) := by
  simp only [impl_isSet.f, impl_isRegion.f, impl_isSlot.f, impl_isValue.f, within_, Option.bind_some, okS]
  by_cases h1 : 0 ≤ x.f0 ∧ x.f0 ≤ 5 <;> by_cases h2 : 0 ≤ x.f1 ∧ x.f1 ≤ 5 <;> by_cases h3 : -1000000000 ≤ x.f2 ∧ x.f2 ≤ 1000000000 <;> simp [h1, h2, h3]
/-- The set at place i is right, and stands rightly behind the one ahead of it. -/
def stepS (l : List S127) (i : Nat) : Bool := okS (rd_T127 l (i : Int)) && (decide (i = 0) || (decide ((rd_T127 l (i : Int)).f0 = (rd_T127 l 0).f0) && decide ((rd_T127 l ((i : Int) - 1)).f1 < (rd_T127 l (i : Int)).f1)))
def okSs (l : List S127) : Nat → Nat → Bool
  | _, 0 => true
  | i, d + 1 => stepS l i && okSs l (i + 1) d
theorem spec_sets_from (l : List S127) (hl : l.length ≤ 1048576) : ∀ d i k, i + d = l.length → 2 * d + 2 < k → spec_l2Sets.l0 k l (i : Int) = some (okSs l i d) := by
  intro d
  induction d with
  | zero =>
    intro i k hd hk
    obtain ⟨k, rfl⟩ : ∃ q, k = q + 1 := ⟨k - 1, by omega⟩
    simp only [spec_l2Sets.l0]
    rw [if_neg (by omega)]
    rfl
  | succ d ih =>
    intro i k hd hk
    obtain ⟨k, rfl⟩ : ∃ q, k = q + 1 := ⟨k - 1, by omega⟩
    have e := ih (i + 1) k (by omega) (by omega)
    rw [show ((i + 1 : Nat) : Int) = (i : Int) + 1 from by omega] at e
    simp only [spec_l2Sets.l0, spec_set, Option.bind_some, if_pos (show (i : Int) < (l.length : Int) by omega), if_pos (show (0 : Int) ≤ (i : Int) by omega), wrap_of (x := (i : Int) + 1) (by omega) (by omega), e, okSs, stepS]
    by_cases h0 : (i : Int) > 0
    · have h0' : ¬ i = 0 := by omega
      simp only [if_pos h0, wrap_of (x := (i : Int) - 1) (by omega) (by omega), if_pos (show 0 ≤ (i : Int) - 1 by omega), if_pos (show (i : Int) - 1 < (l.length : Int) by omega), if_pos (show (0 : Int) < (l.length : Int) by omega)]
      by_cases a2 : (rd_T127 l (i : Int)).f1 ≤ (rd_T127 l ((i : Int) - 1)).f1
      · have a2' : ¬ (rd_T127 l ((i : Int) - 1)).f1 < (rd_T127 l (i : Int)).f1 := by omega
        cases okS (rd_T127 l (i : Int)) <;> simp [h0', a2, a2']
      · have a2' : (rd_T127 l ((i : Int) - 1)).f1 < (rd_T127 l (i : Int)).f1 := by omega
        by_cases a3 : (rd_T127 l (i : Int)).f0 = (rd_T127 l 0).f0 <;> cases okS (rd_T127 l (i : Int)) <;> simp [h0', a2, a2', a3]
    · have h0' : i = 0 := by omega
      rw [if_neg h0]
      cases okS (rd_T127 l (i : Int)) <;> simp [h0']
theorem impl_sets_from (l : List S127) (hl : l.length ≤ 1048576) : ∀ d i k, i + d = l.length → 2 * d + 2 < k → impl_areSets.l0 k l l (l.length : Int) (i : Int) = some (okSs l i d) := by
  intro d
  induction d with
  | zero =>
    intro i k hd hk
    obtain ⟨k, rfl⟩ : ∃ q, k = q + 1 := ⟨k - 1, by omega⟩
    simp only [impl_areSets.l0]
    rw [if_neg (by omega)]
    rfl
  | succ d ih =>
    intro i k hd hk
    obtain ⟨k, rfl⟩ : ∃ q, k = q + 1 := ⟨k - 1, by omega⟩
    have e := ih (i + 1) k (by omega) (by omega)
    rw [show ((i + 1 : Nat) : Int) = (i : Int) + 1 from by omega] at e
    simp only [impl_areSets.l0, impl_set, Option.bind_some, if_pos (show (i : Int) < (l.length : Int) by omega), if_pos (show (0 : Int) ≤ (i : Int) by omega), if_pos (show (0 : Int) < (l.length : Int) by omega), wrap_of (x := (i : Int) + 1) (by omega) (by omega), e, okSs, stepS]
    by_cases h0 : (i : Int) > 0
    · have h0' : ¬ i = 0 := by omega
      simp only [if_pos h0, wrap_of (x := (i : Int) - 1) (by omega) (by omega), if_pos (show 0 ≤ (i : Int) - 1 by omega), if_pos (show (i : Int) - 1 < (l.length : Int) by omega)]
      by_cases a2 : (rd_T127 l (i : Int)).f1 ≤ (rd_T127 l ((i : Int) - 1)).f1
      · have a2' : ¬ (rd_T127 l ((i : Int) - 1)).f1 < (rd_T127 l (i : Int)).f1 := by omega
        by_cases a3 : (rd_T127 l (i : Int)).f0 = (rd_T127 l 0).f0 <;> cases okS (rd_T127 l (i : Int)) <;> simp [h0', a2, a2', a3]
      · have a2' : (rd_T127 l ((i : Int) - 1)).f1 < (rd_T127 l (i : Int)).f1 := by omega
        by_cases a3 : (rd_T127 l (i : Int)).f0 = (rd_T127 l 0).f0 <;> cases okS (rd_T127 l (i : Int)) <;> simp [h0', a2, a2', a3]
    · have h0' : i = 0 := by omega
      subst h0'
      rw [if_neg h0]
      cases okS (rd_T127 l ((0 : Nat) : Int)) <;> simp
theorem spec_sets (l : List S127) (hl : l.length ≤ 1048576) (k : Nat) (hk : 2 * l.length + 2 < k) : spec_l2Sets.f k l = some (okSs l 0 l.length) := spec_sets_from l hl l.length 0 k (by omega) hk
theorem impl_sets (l : List S127) (hl : l.length ≤ 1048576) (k : Nat) (hk : 2 * l.length + 2 < k) : impl_areSets.f k l = some (okSs l 0 l.length) := impl_sets_from l hl l.length 0 k (by omega) hk
theorem okSs_at (l : List S127) : ∀ d i, okSs l i d = true → ∀ j, i ≤ j → j < i + d → okS (rd_T127 l (j : Int)) = true := by
  intro d
  induction d with
  | zero => intro i _ j h1 h2; omega
  | succ d ih =>
    intro i h j h1 h2
    simp only [okSs, Bool.and_eq_true] at h
    by_cases hj : j = i
    · subst hj
      have := h.1
      simp only [stepS, Bool.and_eq_true] at this
      exact this.1
    · exact ih (i + 1) h.2 j (by omega) (by omega)
theorem okS_slot {x : S127} (h : okS x = true) : 0 ≤ x.f1 ∧ x.f1 ≤ 5 := by
  simp only [okS, Bool.and_eq_true, decide_eq_true_eq] at h
  exact h.2.1
theorem okS_ver {x : S127} (h : okS x = true) : 0 ≤ x.f4 ∧ x.f4 ≤ 999999 := by
  simp only [okS, Bool.and_eq_true, decide_eq_true_eq] at h
  exact h.2.2.2
theorem okSs_reg (l : List S127) : ∀ d i, okSs l i d = true → ∀ j, i ≤ j → j < i + d → (rd_T127 l (j : Int)).f0 = (rd_T127 l 0).f0 := by
  intro d
  induction d with
  | zero => intro i _ j h1 h2; omega
  | succ d ih =>
    intro i h j h1 h2
    simp only [okSs, Bool.and_eq_true] at h
    by_cases hj : j = i
    · subst hj
      have := h.1
      simp only [stepS, Bool.and_eq_true, Bool.or_eq_true, decide_eq_true_eq] at this
      rcases this.2 with h0 | h0
      · subst h0; rfl
      · exact h0.1
    · exact ih (i + 1) h.2 j (by omega) (by omega)
theorem regions (l : List S127) (q : Int) (h1 : 1 ≤ l.length) (h : okSs l 0 l.length = true) : impl_Set_119.f l q = some (!decide ((rd_T127 l 0).f0 = q)) := by
  obtain ⟨r, e, hr⟩ := idx_total (fun x : S127 => impl_isRecord_1.f x.f0 x.f1 x.f2 x.f3 x.f4 q) (fun x => x.f0 != q) l (fun x _ => rfl) 0
  simp only [impl_Set_119.f, e, Option.bind_some, hr]
  have hall := okSs_reg l l.length 0 h
  by_cases hq : (rd_T127 l 0).f0 = q
  · have : l.any (fun x => x.f0 != q) = false := by
      rw [List.any_eq_false]
      intro x hx
      obtain ⟨j, hj, rfl⟩ := List.mem_iff_getElem.1 hx
      have := hall j (by omega) (by omega)
      rw [rd127_get hj] at this
      simp [this, hq]
    simp [this, hq]
  · have : l.any (fun x => x.f0 != q) = true := by
      rw [List.any_eq_true]
      have h0 : 0 < l.length := by omega
      refine ⟨l[0], List.getElem_mem h0, ?_⟩
      have := rd127_get h0
      rw [show ((0 : Nat) : Int) = 0 from rfl] at this
      rw [this] at hq
      simp [hq]
    simp [this, hq]
theorem eqInts_ok (l : List Int) (hl : l.length ≤ maxLen) (k : Nat) (hk : l.length < k) : laws_eqInt64S.f k l l = some true := by
  unfold maxLen at hl
  unfold laws_eqInt64S.f
  rw [if_pos rfl]
  exact loop_to (fun k (s : Int) => laws_eqInt64S.l0 k l l s) (fun i s => s = (i : Int)) l.length 0 true
    (fun k i s _ hi hP => ⟨wrap64 (s + 1), by rw [hP, wrap_of (by omega) (by omega)]; omega, by
      show laws_eqInt64S.l0 (k + 1) l l s = _
      simp only [laws_eqInt64S.l0]
      rw [if_pos (by omega), if_pos (by omega), if_pos (by omega)]
      first | rw [if_pos rfl] | rw [if_pos trivial]⟩)
    (fun k s _ hP => by
      show laws_eqInt64S.l0 (k + 1) l l s = _
      simp only [laws_eqInt64S.l0]
      rw [if_neg (by omega)]) 0 k 0 (by omega) (by omega) rfl
theorem toInts_ok (l : List Int) (hl : l.length ≤ 35184372088832) (k : Nat) (hk : l.length < k) : laws_toInt64S.f k l = some l := by
  unfold laws_toInt64S.f
  rw [if_pos (by omega), if_pos (by omega)]
  exact loop_to (fun k (s : List Int × Int) => laws_toInt64S.l0 k l s.1 s.2) (fun i s => s.2 = (i : Int) ∧ s.1.length = l.length ∧ s.1.take i = l.take i) l.length 0 l
    (fun k i s _ hi hP => ⟨(s.1.set s.2.toNat (rd l s.2), wrap64 (s.2 + 1)), by
      obtain ⟨h1, h2, h3⟩ := hP
      refine ⟨by show wrap64 (s.2 + 1) = _; rw [h1, wrap_of (by omega) (by omega)]; omega, by show (s.1.set _ _).length = _; rw [List.length_set, h2], ?_⟩
      show (s.1.set s.2.toNat (rd l s.2)).take (i + 1) = _
      rw [h1, Int.toNat_natCast]
      exact take_next h2 hi h3 (rd_get hi), by
      obtain ⟨h1, h2, h3⟩ := hP
      show laws_toInt64S.l0 (k + 1) l s.1 s.2 = _
      simp only [laws_toInt64S.l0]
      rw [if_pos (by omega), if_pos (by omega), if_pos (by omega)]⟩)
    (fun k s _ hP => by
      obtain ⟨h1, h2, h3⟩ := hP
      show laws_toInt64S.l0 (k + 1) l s.1 s.2 = _
      simp only [laws_toInt64S.l0]
      rw [if_neg (by omega)]
      rw [List.take_of_length_le (by omega), List.take_of_length_le (by omega)] at h3
      rw [h3]) 0 k (List.replicate ((l.length : Int)).toNat 0, 0) (by omega) (by omega) ⟨rfl, by simp, by simp⟩
theorem szInt64S_ok (l : List Int) (a : Int) (ha : 0 ≤ a) (ha' : a ≤ 1048576) (hl : l.length ≤ maxLen) : laws_szInt64S.f l a = some (if a < (l.length : Int) then -1 else a - (l.length : Int)) := by
  unfold maxLen at hl
  unfold laws_szInt64S.f
  rw [wrap_of (by omega) (by omega)]
  by_cases h : a < (l.length : Int)
  · rw [if_pos (by omega), if_pos h]
  · rw [if_neg (by omega), if_neg h]
def toC (p : S110) : S92 := ⟨p.f0, p.f1⟩
theorem toCellS_ok (l : List S110) (hl : l.length ≤ 1048576) (k : Nat) (hk : l.length < k) : laws_toCellS.f k l = some (l.map toC) := by
  unfold laws_toCellS.f
  rw [if_pos (by omega), if_pos (by omega)]
  exact loop_to (fun k (s : List S92 × Int) => laws_toCellS.l0 k l s.1 s.2) (fun i s => s.2 = (i : Int) ∧ s.1.length = (l.map toC).length ∧ s.1.take i = (l.map toC).take i) l.length 0 (l.map toC)
    (fun k i s hk hi hP => ⟨(s.1.set s.2.toNat (toC l[i]), wrap64 (s.2 + 1)), by
      obtain ⟨h1, h2, h3⟩ := hP
      refine ⟨by show wrap64 (s.2 + 1) = _; rw [h1, wrap_of (by omega) (by omega)]; omega, by show (s.1.set _ _).length = _; rw [List.length_set, h2], ?_⟩
      show (s.1.set s.2.toNat (toC l[i])).take (i + 1) = _
      rw [h1, Int.toNat_natCast]
      exact take_next h2 (by simpa using hi) h3 (by simp), by
      obtain ⟨h1, h2, h3⟩ := hP
      rw [List.length_map] at h2
      show laws_toCellS.l0 (k + 1) l s.1 s.2 = _
      simp only [laws_toCellS.l0, laws_toCell.f]
      rw [if_pos (by omega), if_pos (by omega), h1, rd110_get hi]
      simp only [Option.bind_some]
      rw [if_pos (by omega)]
      rfl⟩)
    (fun k s hk hP => by
      obtain ⟨h1, h2, h3⟩ := hP
      show laws_toCellS.l0 (k + 1) l s.1 s.2 = _
      simp only [laws_toCellS.l0]
      rw [if_neg (by omega)]
      rw [List.take_of_length_le (by rw [h2, List.length_map]; omega), List.take_of_length_le (by simp)] at h3
      rw [h3]) 0 k (List.replicate ((l.length : Int)).toNat z92, 0) (by omega) (by omega) ⟨rfl, by simp, by simp⟩
theorem eqCellS_ok (l : List S92) (hl : l.length ≤ 9000000000000) (k : Nat) (hk : l.length < k) : laws_eqCellS.f k l l = some true := by
  unfold laws_eqCellS.f
  rw [if_pos rfl]
  exact loop_to (fun k (s : Int) => laws_eqCellS.l0 k l l s) (fun i s => s = (i : Int)) l.length 0 true
    (fun k i s hk hi hP => ⟨wrap64 (s + 1), by rw [hP, wrap_of (by omega) (by omega)]; omega, by
      show laws_eqCellS.l0 (k + 1) l l s = _
      simp only [laws_eqCellS.l0]
      rw [if_pos (by omega), if_pos (by omega), if_pos (by omega)]
      simp [laws_eqCell.f]⟩)
    (fun k s _ hP => by
      show laws_eqCellS.l0 (k + 1) l l s = _
      simp only [laws_eqCellS.l0]
      rw [if_neg (by omega)]) 0 k 0 (by omega) (by omega) rfl
theorem szCellS_ok (l : List S110) (a : Int) (ha : 0 ≤ a) (ha' : a ≤ 1048576) (hl : l.length ≤ maxLen) : laws_szCellS.f l a = some (if a < (l.length : Int) then -1 else a - (l.length : Int)) := by
  unfold maxLen at hl
  unfold laws_szCellS.f
  rw [wrap_of (by omega) (by omega)]
  by_cases h : a < (l.length : Int)
  · rw [if_pos (by omega), if_pos h]
  · rw [if_neg (by omega), if_neg h]
def toS (p : S135) : S127 := ⟨p.f0, p.f1, p.f2, p.f3, p.f4⟩
theorem toSetS_ok (l : List S135) (hl : l.length ≤ 1048576) (k : Nat) (hk : l.length < k) : laws_toSetS.f k l = some (l.map toS) := by
  unfold laws_toSetS.f
  rw [if_pos (by omega), if_pos (by omega)]
  exact loop_to (fun k (s : List S127 × Int) => laws_toSetS.l0 k l s.1 s.2) (fun i s => s.2 = (i : Int) ∧ s.1.length = (l.map toS).length ∧ s.1.take i = (l.map toS).take i) l.length 0 (l.map toS)
    (fun k i s hk hi hP => ⟨(s.1.set s.2.toNat (toS l[i]), wrap64 (s.2 + 1)), by
      obtain ⟨h1, h2, h3⟩ := hP
      refine ⟨by show wrap64 (s.2 + 1) = _; rw [h1, wrap_of (by omega) (by omega)]; omega, by show (s.1.set _ _).length = _; rw [List.length_set, h2], ?_⟩
      show (s.1.set s.2.toNat (toS l[i])).take (i + 1) = _
      rw [h1, Int.toNat_natCast]
      exact take_next h2 (by simpa using hi) h3 (by simp), by
      obtain ⟨h1, h2, h3⟩ := hP
      rw [List.length_map] at h2
      show laws_toSetS.l0 (k + 1) l s.1 s.2 = _
      simp only [laws_toSetS.l0, laws_toSet.f]
      rw [if_pos (by omega), if_pos (by omega), h1, rd135_get hi]
      simp only [Option.bind_some]
      rw [if_pos (by omega)]
      rfl⟩)
    (fun k s hk hP => by
      obtain ⟨h1, h2, h3⟩ := hP
      show laws_toSetS.l0 (k + 1) l s.1 s.2 = _
      simp only [laws_toSetS.l0]
      rw [if_neg (by omega)]
      rw [List.take_of_length_le (by rw [h2, List.length_map]; omega), List.take_of_length_le (by simp)] at h3
      rw [h3]) 0 k (List.replicate ((l.length : Int)).toNat z127, 0) (by omega) (by omega) ⟨rfl, by simp, by simp⟩
theorem eqSetS_ok (l : List S127) (hl : l.length ≤ 9000000000000) (k : Nat) (hk : l.length < k) : laws_eqSetS.f k l l = some true := by
  unfold laws_eqSetS.f
  rw [if_pos rfl]
  exact loop_to (fun k (s : Int) => laws_eqSetS.l0 k l l s) (fun i s => s = (i : Int)) l.length 0 true
    (fun k i s hk hi hP => ⟨wrap64 (s + 1), by rw [hP, wrap_of (by omega) (by omega)]; omega, by
      show laws_eqSetS.l0 (k + 1) l l s = _
      simp only [laws_eqSetS.l0]
      rw [if_pos (by omega), if_pos (by omega), if_pos (by omega)]
      simp [laws_eqSet.f]⟩)
    (fun k s _ hP => by
      show laws_eqSetS.l0 (k + 1) l l s = _
      simp only [laws_eqSetS.l0]
      rw [if_neg (by omega)]) 0 k 0 (by omega) (by omega) rfl
theorem szSetS_ok (l : List S135) (a : Int) (ha : 0 ≤ a) (ha' : a ≤ 1048576) (hl : l.length ≤ maxLen) : laws_szSetS.f l a = some (if a < (l.length : Int) then -1 else a - (l.length : Int)) := by
  unfold maxLen at hl
  unfold laws_szSetS.f
  rw [wrap_of (by omega) (by omega)]
  by_cases h : a < (l.length : Int)
  · rw [if_pos (by omega), if_pos h]
  · rw [if_neg (by omega), if_neg h]
theorem szCopyS_ok (l : List S123) (a : Int) (ha : 0 ≤ a) (ha' : a ≤ 1048576) (hl : l.length ≤ maxLen) (hm : ∀ x ∈ l, x.f1.length ≤ maxLen) (k : Nat) (hk : l.length < k) : Ok (fun r => 0 ≤ r → r ≤ 1048576 ∧ l.length ≤ 1048576 ∧ ∀ x ∈ l, x.f1.length ≤ 1048576) (laws_szCopyS.f k l a) := by
  unfold maxLen at hl hm
  unfold laws_szCopyS.f
  rw [wrap_of (by omega) (by omega)]
  refine Ok.ite (fun _ => Ok.ret (by omega)) (fun h => ?_)
  obtain ⟨r, hr, e⟩ := loop_inv (fun k (s : Int × Int) => laws_szCopyS.l0 k l s.1 s.2) (fun i s => s.2 = (i : Int) ∧ 0 ≤ s.1 ∧ s.1 ≤ 1048576 ∧ ∀ j (h : j < l.length), j < i → l[j].f1.length ≤ 1048576) (fun r => 0 ≤ r → r ≤ 1048576 ∧ l.length ≤ 1048576 ∧ ∀ x ∈ l, x.f1.length ≤ 1048576) l.length 0
    (fun k i s _ hi hP => by
      obtain ⟨h1, h2, h3, h4⟩ := hP
      have e1 : laws_szCopyS.l0 (k + 1) l s.1 s.2 = if (if s.1 < (l[i].f1.length : Int) then -1 else s.1 - (l[i].f1.length : Int)) < 0 then some (-1) else laws_szCopyS.l0 k l (if s.1 < (l[i].f1.length : Int) then -1 else s.1 - (l[i].f1.length : Int)) (wrap64 (s.2 + 1)) := by
        simp only [laws_szCopyS.l0, laws_szCopy.f]
        rw [if_pos (by omega), if_pos (by omega), h1, rd123_get hi, szCellS_ok _ _ h2 h3 (by unfold maxLen; exact hm _ (List.getElem_mem hi))]
        simp only [Option.bind_some]
        by_cases hc : s.1 < (l[i].f1.length : Int)
        · simp [hc]
        · have hc2 : ¬ s.1 - (l[i].f1.length : Int) < 0 := by omega
          simp [hc, hc2]
      by_cases hc : s.1 < (l[i].f1.length : Int)
      · refine .inr ⟨-1, by omega, ?_⟩
        show laws_szCopyS.l0 (k + 1) l s.1 s.2 = _
        rw [e1, if_pos hc, if_pos (by omega)]
      · refine .inl ⟨(s.1 - (l[i].f1.length : Int), wrap64 (s.2 + 1)), ⟨?_, by show 0 ≤ s.1 - _; omega, by show s.1 - _ ≤ _; omega, fun j h hj => ?_⟩, ?_⟩
        · show wrap64 (s.2 + 1) = _
          rw [h1, wrap_of (by omega) (by omega)]; omega
        · by_cases hji : j = i
          · subst hji; omega
          · exact h4 j h (by omega)
        · show laws_szCopyS.l0 (k + 1) l s.1 s.2 = _
          rw [e1, if_neg hc, if_neg (by omega)])
    (fun k s _ hP => ⟨s.1, fun _ => ⟨hP.2.2.1, by omega, fun x hx => by
      obtain ⟨j, hj, rfl⟩ := List.mem_iff_getElem.1 hx
      exact hP.2.2.2 j hj hj⟩, by
      show laws_szCopyS.l0 (k + 1) l s.1 s.2 = _
      have h1 := hP.1
      simp only [laws_szCopyS.l0]
      rw [if_neg (by omega)]⟩) l.length 0 k (a - (l.length : Int), 0) (by omega) (by omega) ⟨rfl, by show 0 ≤ a - (l.length : Int); omega, by show a - (l.length : Int) ≤ _; omega, fun j _ hj => by omega⟩
  exact ⟨r, e, hr⟩
theorem szRecordS_ok (l : List S53) (a : Int) (ha : 0 ≤ a) (ha' : a ≤ 1048576) (hl : l.length ≤ maxLen) (hm : ∀ x ∈ l, x.f3.length ≤ maxLen) (k : Nat) (hk : l.length < k) : Ok (fun r => 0 ≤ r → r ≤ 1048576 ∧ l.length ≤ 1048576 ∧ ∀ x ∈ l, x.f3.length ≤ 1048576) (laws_szRecordS.f k l a) := by
  unfold maxLen at hl hm
  unfold laws_szRecordS.f
  rw [wrap_of (by omega) (by omega)]
  refine Ok.ite (fun _ => Ok.ret (by omega)) (fun h => ?_)
  obtain ⟨r, hr, e⟩ := loop_inv (fun k (s : Int × Int) => laws_szRecordS.l0 k l s.1 s.2) (fun i s => s.2 = (i : Int) ∧ 0 ≤ s.1 ∧ s.1 ≤ 1048576 ∧ ∀ j (h : j < l.length), j < i → l[j].f3.length ≤ 1048576) (fun r => 0 ≤ r → r ≤ 1048576 ∧ l.length ≤ 1048576 ∧ ∀ x ∈ l, x.f3.length ≤ 1048576) l.length 0
    (fun k i s _ hi hP => by
      obtain ⟨h1, h2, h3, h4⟩ := hP
      have e1 : laws_szRecordS.l0 (k + 1) l s.1 s.2 = if (if s.1 < (l[i].f3.length : Int) then -1 else s.1 - (l[i].f3.length : Int)) < 0 then some (-1) else laws_szRecordS.l0 k l (if s.1 < (l[i].f3.length : Int) then -1 else s.1 - (l[i].f3.length : Int)) (wrap64 (s.2 + 1)) := by
        simp only [laws_szRecordS.l0, laws_szRecord.f]
        rw [if_pos (by omega), if_pos (by omega), h1, rd53_get hi, szSetS_ok _ _ h2 h3 (by unfold maxLen; exact hm _ (List.getElem_mem hi))]
        simp only [Option.bind_some]
        by_cases hc : s.1 < (l[i].f3.length : Int)
        · simp [hc]
        · have hc2 : ¬ s.1 - (l[i].f3.length : Int) < 0 := by omega
          simp [hc, hc2]
      by_cases hc : s.1 < (l[i].f3.length : Int)
      · refine .inr ⟨-1, by omega, ?_⟩
        show laws_szRecordS.l0 (k + 1) l s.1 s.2 = _
        rw [e1, if_pos hc, if_pos (by omega)]
      · refine .inl ⟨(s.1 - (l[i].f3.length : Int), wrap64 (s.2 + 1)), ⟨?_, by show 0 ≤ s.1 - _; omega, by show s.1 - _ ≤ _; omega, fun j h hj => ?_⟩, ?_⟩
        · show wrap64 (s.2 + 1) = _
          rw [h1, wrap_of (by omega) (by omega)]; omega
        · by_cases hji : j = i
          · subst hji; omega
          · exact h4 j h (by omega)
        · show laws_szRecordS.l0 (k + 1) l s.1 s.2 = _
          rw [e1, if_neg hc, if_neg (by omega)])
    (fun k s _ hP => ⟨s.1, fun _ => ⟨hP.2.2.1, by omega, fun x hx => by
      obtain ⟨j, hj, rfl⟩ := List.mem_iff_getElem.1 hx
      exact hP.2.2.2 j hj hj⟩, by
      show laws_szRecordS.l0 (k + 1) l s.1 s.2 = _
      have h1 := hP.1
      simp only [laws_szRecordS.l0]
      rw [if_neg (by omega)]⟩) l.length 0 k (a - (l.length : Int), 0) (by omega) (by omega) ⟨rfl, by show 0 ≤ a - (l.length : Int); omega, by show a - (l.length : Int) ≤ _; omega, fun j _ hj => by omega⟩
  exact ⟨r, e, hr⟩
def toCp (p : S123) : S79 := ⟨p.f0, p.f1.map toC⟩
theorem toCopyS_ok (l : List S123) (hl : l.length ≤ 1048576) (hm : ∀ x ∈ l, x.f1.length ≤ 1048576) (k : Nat) (hk : l.length + 1048577 < k) : laws_toCopyS.f k l = some (l.map toCp) := by
  unfold laws_toCopyS.f
  rw [if_pos (by omega), if_pos (by omega)]
  exact loop_to (fun k (s : List S79 × Int) => laws_toCopyS.l0 k l s.1 s.2) (fun i s => s.2 = (i : Int) ∧ s.1.length = (l.map toCp).length ∧ s.1.take i = (l.map toCp).take i) l.length 1048577 (l.map toCp)
    (fun k i s hk hi hP => ⟨(s.1.set s.2.toNat (toCp l[i]), wrap64 (s.2 + 1)), by
      obtain ⟨h1, h2, h3⟩ := hP
      refine ⟨by show wrap64 (s.2 + 1) = _; rw [h1, wrap_of (by omega) (by omega)]; omega, by show (s.1.set _ _).length = _; rw [List.length_set, h2], ?_⟩
      show (s.1.set s.2.toNat (toCp l[i])).take (i + 1) = _
      rw [h1, Int.toNat_natCast]
      exact take_next h2 (by simpa using hi) h3 (by simp), by
      obtain ⟨h1, h2, h3⟩ := hP
      rw [List.length_map] at h2
      show laws_toCopyS.l0 (k + 1) l s.1 s.2 = _
      simp only [laws_toCopyS.l0, laws_toCopy.f]
      have hx := hm _ (List.getElem_mem hi)
      rw [if_pos (by omega), if_pos (by omega), h1, rd123_get hi, toCellS_ok _ (by omega) k (by omega)]
      simp only [Option.bind_some]
      rw [if_pos (by omega)]
      rfl⟩)
    (fun k s hk hP => by
      obtain ⟨h1, h2, h3⟩ := hP
      show laws_toCopyS.l0 (k + 1) l s.1 s.2 = _
      simp only [laws_toCopyS.l0]
      rw [if_neg (by omega)]
      rw [List.take_of_length_le (by rw [h2, List.length_map]; omega), List.take_of_length_le (by simp)] at h3
      rw [h3]) 0 k (List.replicate ((l.length : Int)).toNat z79, 0) (by omega) (by omega) ⟨rfl, by simp, by simp⟩
def toR (p : S53) : S45 := ⟨p.f0, p.f1, p.f2, p.f3.map toS⟩
theorem toRecordS_ok (l : List S53) (hl : l.length ≤ 1048576) (hm : ∀ x ∈ l, x.f3.length ≤ 1048576) (k : Nat) (hk : l.length + 1048577 < k) : laws_toRecordS.f k l = some (l.map toR) := by
  unfold laws_toRecordS.f
  rw [if_pos (by omega), if_pos (by omega)]
  exact loop_to (fun k (s : List S45 × Int) => laws_toRecordS.l0 k l s.1 s.2) (fun i s => s.2 = (i : Int) ∧ s.1.length = (l.map toR).length ∧ s.1.take i = (l.map toR).take i) l.length 1048577 (l.map toR)
    (fun k i s hk hi hP => ⟨(s.1.set s.2.toNat (toR l[i]), wrap64 (s.2 + 1)), by
      obtain ⟨h1, h2, h3⟩ := hP
      refine ⟨by show wrap64 (s.2 + 1) = _; rw [h1, wrap_of (by omega) (by omega)]; omega, by show (s.1.set _ _).length = _; rw [List.length_set, h2], ?_⟩
      show (s.1.set s.2.toNat (toR l[i])).take (i + 1) = _
      rw [h1, Int.toNat_natCast]
      exact take_next h2 (by simpa using hi) h3 (by simp), by
      obtain ⟨h1, h2, h3⟩ := hP
      rw [List.length_map] at h2
      show laws_toRecordS.l0 (k + 1) l s.1 s.2 = _
      simp only [laws_toRecordS.l0, laws_toRecord.f]
      have hx := hm _ (List.getElem_mem hi)
      rw [if_pos (by omega), if_pos (by omega), h1, rd53_get hi, toSetS_ok _ (by omega) k (by omega)]
      simp only [Option.bind_some]
      rw [if_pos (by omega)]
      rfl⟩)
    (fun k s hk hP => by
      obtain ⟨h1, h2, h3⟩ := hP
      show laws_toRecordS.l0 (k + 1) l s.1 s.2 = _
      simp only [laws_toRecordS.l0]
      rw [if_neg (by omega)]
      rw [List.take_of_length_le (by rw [h2, List.length_map]; omega), List.take_of_length_le (by simp)] at h3
      rw [h3]) 0 k (List.replicate ((l.length : Int)).toNat z45, 0) (by omega) (by omega) ⟨rfl, by simp, by simp⟩
theorem eqCopyS_ok (l : List S79) (hl : l.length ≤ 1048576) (hm : ∀ x ∈ l, x.f1.length ≤ 1048576) (k : Nat) (hk : l.length + 1048577 < k) : laws_eqCopyS.f k l l = some true := by
  unfold laws_eqCopyS.f
  rw [if_pos rfl]
  exact loop_to (fun k (s : Int) => laws_eqCopyS.l0 k l l s) (fun i s => s = (i : Int)) l.length 1048577 true
    (fun k i s hk hi hP => ⟨wrap64 (s + 1), by rw [hP, wrap_of (by omega) (by omega)]; omega, by
      show laws_eqCopyS.l0 (k + 1) l l s = _
      simp only [laws_eqCopyS.l0, laws_eqCopy.f]
      have hx := hm _ (List.getElem_mem hi)
      rw [if_pos (by omega), if_pos (by omega), if_pos (by omega), hP, rd79_get hi, eqCellS_ok _ (by omega) k (by omega)]
      simp⟩)
    (fun k s _ hP => by
      show laws_eqCopyS.l0 (k + 1) l l s = _
      simp only [laws_eqCopyS.l0]
      rw [if_neg (by omega)]) 0 k 0 (by omega) (by omega) rfl
theorem eqRecordS_ok (l : List S45) (hl : l.length ≤ 1048576) (hm : ∀ x ∈ l, x.f3.length ≤ 1048576) (k : Nat) (hk : l.length + 1048577 < k) : laws_eqRecordS.f k l l = some true := by
  unfold laws_eqRecordS.f
  rw [if_pos rfl]
  exact loop_to (fun k (s : Int) => laws_eqRecordS.l0 k l l s) (fun i s => s = (i : Int)) l.length 1048577 true
    (fun k i s hk hi hP => ⟨wrap64 (s + 1), by rw [hP, wrap_of (by omega) (by omega)]; omega, by
      show laws_eqRecordS.l0 (k + 1) l l s = _
      simp only [laws_eqRecordS.l0, laws_eqRecord.f]
      have hx := hm _ (List.getElem_mem hi)
      rw [if_pos (by omega), if_pos (by omega), if_pos (by omega), hP, rd45_get hi, eqSetS_ok _ (by omega) k (by omega)]
      simp⟩)
    (fun k s _ hP => by
      show laws_eqRecordS.l0 (k + 1) l l s = _
      simp only [laws_eqRecordS.l0]
      rw [if_neg (by omega)]) 0 k 0 (by omega) (by omega) rfl
def okR (x : S45) : Bool := decide (1 ≤ x.f0 ∧ x.f0 ≤ 3) && (decide (1 ≤ x.f1 ∧ x.f1 ≤ 1000000) && (decide (0 ≤ x.f2 ∧ x.f2 ≤ 5) && (decide (1 ≤ (x.f3.length : Int) ∧ (x.f3.length : Int) ≤ 12) && (okSs x.f3 0 x.f3.length && decide ((rd_T127 x.f3 0).f0 = x.f2)))))
theorem record_val (x : S45) (hl : x.f3.length ≤ 1048576) (k : Nat) (hk : 2 * x.f3.length + 2 < k) : spec_RecordOk.f k x.f0 x.f1 x.f2 x.f3 = some (okR x) ∧ impl_isRecord.f k x.f0 x.f1 x.f2 x.f3 = some (okR x) := by
  simp only [spec_RecordOk.f, impl_isRecord.f, spec_l1Id.f, spec_l1Region.f, impl_isId.f, impl_isRegion.f, impl_Set_117.f, in_, within_, spec_sets x.f3 hl k hk, impl_sets x.f3 hl k hk, Option.bind_some, okR]
  by_cases h1 : 1 ≤ x.f0 ∧ x.f0 ≤ 3
  · by_cases h2 : 1 ≤ x.f1 ∧ x.f1 ≤ 1000000
    · by_cases h3 : 0 ≤ x.f2 ∧ x.f2 ≤ 5
      · by_cases h4 : (x.f3.length : Int) ≥ 1
        · by_cases h5 : (x.f3.length : Int) ≤ 12
          · have h6 : 1 ≤ (x.f3.length : Int) ∧ (x.f3.length : Int) ≤ 12 := ⟨h4, h5⟩
            by_cases h7 : okSs x.f3 0 x.f3.length = true
            · rw [regions x.f3 x.f2 (by omega) h7]
              have h8 : 0 < x.f3.length := by omega
              by_cases h9 : (rd_T127 x.f3 0).f0 = x.f2 <;> simp [h1, h2, h3, h4, h5, h6, h7, h8, h9]
            · simp [h1, h2, h3, h4, h5, h6, h7]
          · have h6 : ¬ (1 ≤ (x.f3.length : Int) ∧ (x.f3.length : Int) ≤ 12) := by omega
            simp only [decide_eq_true h1, decide_eq_true h2, decide_eq_true h3, if_pos h4, if_neg h5, decide_eq_false h6]
            simp
        · have h6 : ¬ (1 ≤ (x.f3.length : Int) ∧ (x.f3.length : Int) ≤ 12) := by omega
          simp only [decide_eq_true h1, decide_eq_true h2, decide_eq_true h3, if_neg h4, decide_eq_false h6]
          simp
      · simp [h1, h2, h3]
    · simp [h1, h2]
  · simp [h1]
def okIds (l : List Int) : Nat → Nat → Bool
  | _, 0 => true
  | i, d + 1 => (decide (1 ≤ rd l (i : Int) ∧ rd l (i : Int) ≤ 1000000) && (decide (i = 0) || decide (rd l ((i : Int) - 1) < rd l (i : Int)))) && okIds l (i + 1) d
def okCps (l : List S79) : Nat → Nat → Bool
  | _, 0 => true
  | i, d + 1 => (decide (0 ≤ (rd_T79 l (i : Int)).f0 ∧ (rd_T79 l (i : Int)).f0 ≤ 5) && (okCs (rd_T79 l (i : Int)).f1 && (decide (i = 0) || decide ((rd_T79 l ((i : Int) - 1)).f0 < (rd_T79 l (i : Int)).f0)))) && okCps l (i + 1) d
theorem spec_ids (l : List Int) (hl : l.length ≤ 1048576) : ∀ d i k, i + d = l.length → d < k → spec_l6Rises.l0 k l (i : Int) = some (okIds l i d) := by
  intro d
  induction d with
  | zero =>
    intro i k hd hk
    obtain ⟨k, rfl⟩ : ∃ q, k = q + 1 := ⟨k - 1, by omega⟩
    simp only [spec_l6Rises.l0]
    rw [if_neg (by omega)]
    rfl
  | succ d ih =>
    intro i k hd hk
    obtain ⟨k, rfl⟩ : ∃ q, k = q + 1 := ⟨k - 1, by omega⟩
    have e := ih (i + 1) k (by omega) (by omega)
    rw [show ((i + 1 : Nat) : Int) = (i : Int) + 1 from by omega] at e
    simp only [spec_l6Rises.l0, spec_l1Id.f, in_, Option.bind_some, if_pos (show (i : Int) < (l.length : Int) by omega), if_pos (show (0 : Int) ≤ (i : Int) by omega), wrap_of (x := (i : Int) + 1) (by omega) (by omega), e, okIds]
    by_cases h1 : 1 ≤ rd l (i : Int) ∧ rd l (i : Int) ≤ 1000000
    · by_cases h0 : (i : Int) > 0
      · have h0' : ¬ i = 0 := by omega
        simp only [if_pos h0, wrap_of (x := (i : Int) - 1) (by omega) (by omega), if_pos (show 0 ≤ (i : Int) - 1 by omega), if_pos (show (i : Int) - 1 < (l.length : Int) by omega)]
        by_cases h2 : rd l (i : Int) ≤ rd l ((i : Int) - 1)
        · have h2' : ¬ rd l ((i : Int) - 1) < rd l (i : Int) := by omega
          simp [h1, h0', h2, h2']
        · have h2' : rd l ((i : Int) - 1) < rd l (i : Int) := by omega
          simp [h1, h0', h2, h2']
      · have h0' : i = 0 := by omega
        subst h0'
        have h1' : 1 ≤ rd l 0 ∧ rd l 0 ≤ 1000000 := h1
        simp [h1']
    · simp [h1]
theorem impl_ids (b : Bool) (c : List S79) (r : List S45) (l : List Int) (hl : l.length ≤ 1048576) : ∀ d i k, i + d = l.length → d < k → impl_isMachineOk.l1 k l (l.length : Int) (i : Int) b c r l = some (okIds l i d) := by
  intro d
  induction d with
  | zero =>
    intro i k hd hk
    obtain ⟨k, rfl⟩ : ∃ q, k = q + 1 := ⟨k - 1, by omega⟩
    simp only [impl_isMachineOk.l1]
    rw [if_neg (by omega)]
    rfl
  | succ d ih =>
    intro i k hd hk
    obtain ⟨k, rfl⟩ : ∃ q, k = q + 1 := ⟨k - 1, by omega⟩
    have e := ih (i + 1) k (by omega) (by omega)
    rw [show ((i + 1 : Nat) : Int) = (i : Int) + 1 from by omega] at e
    simp only [impl_isMachineOk.l1, impl_isId.f, within_, Option.bind_some, if_pos (show (i : Int) < (l.length : Int) by omega), if_pos (show (0 : Int) ≤ (i : Int) by omega), wrap_of (x := (i : Int) + 1) (by omega) (by omega), e, okIds]
    by_cases h1 : 1 ≤ rd l (i : Int) ∧ rd l (i : Int) ≤ 1000000
    · by_cases h0 : (i : Int) > 0
      · have h0' : ¬ i = 0 := by omega
        simp only [if_pos h0, wrap_of (x := (i : Int) - 1) (by omega) (by omega), if_pos (show 0 ≤ (i : Int) - 1 by omega), if_pos (show (i : Int) - 1 < (l.length : Int) by omega)]
        by_cases h2 : rd l ((i : Int) - 1) ≥ rd l (i : Int)
        · have h2' : ¬ rd l ((i : Int) - 1) < rd l (i : Int) := by omega
          simp [h1, h0', h2, h2']
        · have h2' : rd l ((i : Int) - 1) < rd l (i : Int) := by omega
          simp [h1, h0', h2, h2']
      · have h0' : i = 0 := by omega
        subst h0'
        have h1' : 1 ≤ rd l 0 ∧ rd l 0 ≤ 1000000 := h1
        simp [h1']
    · simp [h1]
theorem spec_cps (b : Bool) (l : List S79) (r : List S45) (ids : List Int) (hl : l.length ≤ 1048576) (hm : ∀ x ∈ l, x.f1.length ≤ 1048576) : ∀ d i k, i + d = l.length → d + 2000000 < k → spec_MachineOk.l0 k (i : Int) b l r ids = if okCps l i d = true then spec_MachineOk.l1 (k - d - 1) 0 b l r ids else some false := by
  intro d
  induction d with
  | zero =>
    intro i k hd hk
    obtain ⟨k, rfl⟩ : ∃ q, k = q + 1 := ⟨k - 1, by omega⟩
    simp only [spec_MachineOk.l0]
    rw [if_neg (by omega)]
    simp [okCps]
  | succ d ih =>
    intro i k hd hk
    obtain ⟨k, rfl⟩ : ∃ q, k = q + 1 := ⟨k - 1, by omega⟩
    have e := ih (i + 1) k (by omega) (by omega)
    rw [show ((i + 1 : Nat) : Int) = (i : Int) + 1 from by omega] at e
    have ek : k + 1 - (d + 1) - 1 = k - d - 1 := by omega
    have hx : (rd_T79 l (i : Int)).f1.length ≤ 1048576 := by rw [rd79_get (show i < l.length by omega)]; exact hm _ (List.getElem_mem _)
    simp only [spec_MachineOk.l0, spec_l1Region.f, in_, spec_cells _ hx k (by omega), Option.bind_some, if_pos (show (i : Int) < (l.length : Int) by omega), if_pos (show (0 : Int) ≤ (i : Int) by omega), wrap_of (x := (i : Int) + 1) (by omega) (by omega), e, okCps, ek]
    by_cases h1 : 0 ≤ (rd_T79 l (i : Int)).f0 ∧ (rd_T79 l (i : Int)).f0 ≤ 5
    · by_cases h3 : okCs (rd_T79 l (i : Int)).f1 = true
      · by_cases h0 : (i : Int) > 0
        · have h0' : ¬ i = 0 := by omega
          simp only [if_pos h0, wrap_of (x := (i : Int) - 1) (by omega) (by omega), if_pos (show 0 ≤ (i : Int) - 1 by omega), if_pos (show (i : Int) - 1 < (l.length : Int) by omega)]
          by_cases h2 : (rd_T79 l (i : Int)).f0 ≤ (rd_T79 l ((i : Int) - 1)).f0
          · have h2' : ¬ (rd_T79 l ((i : Int) - 1)).f0 < (rd_T79 l (i : Int)).f0 := by omega
            simp [h1, h3, h0', h2, h2']
          · have h2' : (rd_T79 l ((i : Int) - 1)).f0 < (rd_T79 l (i : Int)).f0 := by omega
            simp [h1, h3, h0', h2, h2']
        · have h0' : i = 0 := by omega
          subst h0'
          have h3' : okCs (rd_T79 l 0).f1 = true := h3
          have h1' : 0 ≤ (rd_T79 l 0).f0 ∧ (rd_T79 l 0).f0 ≤ 5 := h1
          simp [h1', h3']
      · simp [h1, h3]
    · simp [h1]
theorem impl_cps (b : Bool) (l : List S79) (r : List S45) (ids : List Int) (hl : l.length ≤ 1048576) : ∀ d i k, i + d = l.length → d < k → impl_isMachineOk.l0 k l (l.length : Int) (i : Int) b l r ids = if okCps l i d = true then impl_isMachineOk.l1 (k - d - 1) ids (ids.length : Int) 0 b l r ids else some false := by
  intro d
  induction d with
  | zero =>
    intro i k hd hk
    obtain ⟨k, rfl⟩ : ∃ q, k = q + 1 := ⟨k - 1, by omega⟩
    simp only [impl_isMachineOk.l0]
    rw [if_neg (by omega)]
    simp [okCps]
  | succ d ih =>
    intro i k hd hk
    obtain ⟨k, rfl⟩ : ∃ q, k = q + 1 := ⟨k - 1, by omega⟩
    have e := ih (i + 1) k (by omega) (by omega)
    rw [show ((i + 1 : Nat) : Int) = (i : Int) + 1 from by omega] at e
    have ek : k + 1 - (d + 1) - 1 = k - d - 1 := by omega
    simp only [impl_isMachineOk.l0, impl_isRegion.f, within_, impl_cells, Option.bind_some, if_pos (show (i : Int) < (l.length : Int) by omega), if_pos (show (0 : Int) ≤ (i : Int) by omega), wrap_of (x := (i : Int) + 1) (by omega) (by omega), e, okCps, ek]
    by_cases h1 : 0 ≤ (rd_T79 l (i : Int)).f0 ∧ (rd_T79 l (i : Int)).f0 ≤ 5
    · by_cases h3 : okCs (rd_T79 l (i : Int)).f1 = true
      · by_cases h0 : (i : Int) > 0
        · have h0' : ¬ i = 0 := by omega
          simp only [if_pos h0, wrap_of (x := (i : Int) - 1) (by omega) (by omega), if_pos (show 0 ≤ (i : Int) - 1 by omega), if_pos (show (i : Int) - 1 < (l.length : Int) by omega)]
          by_cases h2 : (rd_T79 l ((i : Int) - 1)).f0 ≥ (rd_T79 l (i : Int)).f0
          · have h2' : ¬ (rd_T79 l ((i : Int) - 1)).f0 < (rd_T79 l (i : Int)).f0 := by omega
            simp [h1, h3, h0', h2, h2']
          · have h2' : (rd_T79 l ((i : Int) - 1)).f0 < (rd_T79 l (i : Int)).f0 := by omega
            simp [h1, h3, h0', h2, h2']
        · have h0' : i = 0 := by omega
          subst h0'
          have h3' : okCs (rd_T79 l 0).f1 = true := h3
          have h1' : 0 ≤ (rd_T79 l 0).f0 ∧ (rd_T79 l 0).f0 ≤ 5 := h1
          simp [h1', h3']
      · simp [h1, h3]
    · simp [h1]
theorem spec_recs (b : Bool) (c : List S79) (l : List S45) (ids : List Int) (hl : l.length ≤ 1048576) (hm : ∀ x ∈ l, x.f3.length ≤ 1048576) : ∀ d i k, i + d = l.length → d + 4000000 < k → spec_MachineOk.l1 k (i : Int) b c l ids = some ((l.drop i).all okR) := by
  intro d
  induction d with
  | zero =>
    intro i k hd hk
    obtain ⟨k, rfl⟩ : ∃ q, k = q + 1 := ⟨k - 1, by omega⟩
    simp only [spec_MachineOk.l1]
    rw [if_neg (by omega), List.drop_of_length_le (by omega)]
    rfl
  | succ d ih =>
    intro i k hd hk
    obtain ⟨k, rfl⟩ : ∃ q, k = q + 1 := ⟨k - 1, by omega⟩
    have e := ih (i + 1) k (by omega) (by omega)
    rw [show ((i + 1 : Nat) : Int) = (i : Int) + 1 from by omega] at e
    have hx := hm _ (List.getElem_mem (show i < l.length by omega))
    simp only [spec_MachineOk.l1, if_pos (show (i : Int) < (l.length : Int) by omega), if_pos (show (0 : Int) ≤ (i : Int) by omega), rd45_get (show i < l.length by omega), (record_val l[i] hx k (by omega)).1, Option.bind_some, wrap_of (x := (i : Int) + 1) (by omega) (by omega), e]
    rw [List.drop_eq_getElem_cons (show i < l.length by omega), List.all_cons]
    cases okR l[i] <;> simp
theorem impl_recs (l : List S45) (hm : ∀ x ∈ l, x.f3.length ≤ 1048576) (k : Nat) (hk : 4000000 < k) : impl_Record_108.f k l = some (!l.all okR) := by
  obtain ⟨r, e, hr⟩ := idx_total (fun x : S45 => impl_isMachineOk_1.f k x.f0 x.f1 x.f2 x.f3) (fun x => !okR x) l (fun x hx => by
    have := hm x hx
    show impl_isMachineOk_1.f k x.f0 x.f1 x.f2 x.f3 = _
    simp only [impl_isMachineOk_1.f, (record_val x this k (by omega)).2, Option.bind_some]) 0
  simp only [impl_Record_108.f, e, Option.bind_some, hr]
  rw [← List.not_all_eq_any_not]
theorem machine_ok (b : Bool) (c : List S79) (r : List S45) (ids : List Int) (hc : c.length ≤ 1048576) (hcm : ∀ x ∈ c, x.f1.length ≤ 1048576) (hr : r.length ≤ 1048576) (hrm : ∀ x ∈ r, x.f3.length ≤ 1048576) (hi : ids.length ≤ 1048576) (k : Nat) (hk : 20000000 < k) : ∃ v, spec_MachineOk.f k b c r ids = some v ∧ impl_isMachineOk.f k b c r ids = some v ∧ (v = true → okCps c 0 c.length = true ∧ (c.length : Int) ≤ 6) := by
  obtain ⟨k, rfl⟩ : ∃ q, k = q + 1 := ⟨k - 1, by omega⟩
  have a1 := spec_ids ids hi ids.length 0 (k + 1) (by omega) (by omega)
  have a2 := spec_cps b c r ids hc hcm c.length 0 k (by omega) (by omega)
  have a3 := spec_recs b c r ids hr hrm r.length 0 (k - c.length - 1) (by omega) (by omega)
  have b1 := impl_recs r hrm (k + 1) (by omega)
  have b2 := impl_cps b c r ids hc c.length 0 k (by omega) (by omega)
  have b3 := impl_ids b c r ids hi ids.length 0 (k - c.length - 1) (by omega) (by omega)
  rw [show ((0 : Nat) : Int) = 0 from rfl] at a1 a2 a3 b2 b3
  rw [a3] at a2
  rw [b3] at b2
  simp only [spec_MachineOk.f, impl_isMachineOk.f, spec_MachineOk.j0, impl_isMachineOk.j0, spec_l6Rises.f, a1, a2, b1, b2, Option.bind_some, List.drop_zero]
  by_cases h1 : (c.length : Int) > 6
  · exact ⟨false, by simp [h1], by simp [h1], by simp⟩
  by_cases h2 : (r.length : Int) > 200
  · exact ⟨false, by simp [h1, h2], by simp [h1, h2], by simp⟩
  by_cases h3 : (ids.length : Int) > 60
  · exact ⟨false, by simp [h1, h2, h3], by simp [h1, h2, h3], by simp⟩
  simp only [if_neg h1, if_neg h2, if_neg h3]
  cases okIds ids 0 ids.length <;> cases okCps c 0 c.length <;> cases r.all okR <;> exact ⟨_, rfl, rfl, by simp <;> omega⟩
def mk92 (c : Int) : S92 := ⟨c, wrap64 (c + 1)⟩
theorem mk92_next (c : Int) (h0 : 0 ≤ c) (h1 : c ≤ 4611686018427387904) : wrap64 ((wrap64 (c + 1)) + 1) = c + 2 := by
  rw [wrap_of (x := c + 1) (by omega) (by omega), wrap_of (x := c + 1 + 1) (by omega) (by omega)]
  omega
theorem markCellS_step (k : Nat) (x : List S92) (c : Int) (i : Nat) (hi : i < x.length) (hx : x.length ≤ 9000000000000) : laws_markCellS.l0 (k + 1) x c (i : Int) = laws_markCellS.l0 k (x.set i (mk92 c)) (wrap64 ((wrap64 (c + 1)) + 1)) ((i + 1 : Nat) : Int) := by
  simp only [laws_markCellS.l0]
  rw [if_pos (by omega), if_pos (by omega), wrap_of (x := (i : Int) + 1) (by omega) (by omega)]
  simp only [Option.bind_some, Int.toNat_natCast]
  repeat rw [rd92_set (by simpa only [List.length_set] using hi)]
  simp only [List.set_set]
  rfl
theorem heldCellS_step (k : Nat) (x : List S92) (c : Int) (i : Nat) (hi : i < x.length) (hx : x.length ≤ 9000000000000) (h : x[i] = mk92 c) : laws_heldCellS.l0 (k + 1) x c (i : Int) = laws_heldCellS.l0 k x (wrap64 ((wrap64 (c + 1)) + 1)) ((i + 1 : Nat) : Int) := by
  simp only [laws_heldCellS.l0]
  rw [if_pos (by omega), if_pos (by omega), wrap_of (x := (i : Int) + 1) (by omega) (by omega), rd92_get hi, h]
  simp [mk92]
theorem markCellS_ok (x : List S92) (m : Int) (h0 : 0 ≤ m) (h1 : m ≤ 1000000000000000) (hx : x.length ≤ 9000000000000) (k : Nat) (hk : x.length < k) :
    ∃ y : List S92, y.length = x.length ∧ laws_markCellS.f k x m = some (m + 2 * (x.length : Int), y) ∧ laws_heldCellS.f k y m = some (m + 2 * (x.length : Int)) := by
  have key : ∀ d i k (y : List S92), i + d = x.length → d < k → y.length = x.length → (∀ j (h : j < y.length), j < i → y[j] = mk92 (m + 2 * (j : Int))) →
      ∃ z : List S92, z.length = x.length ∧ laws_markCellS.l0 k y (m + 2 * (i : Int)) (i : Int) = some (m + 2 * (x.length : Int), z) ∧ ∀ j (h : j < z.length), z[j] = mk92 (m + 2 * (j : Int)) := by
    intro d
    induction d with
    | zero =>
      intro i k y hd hk hl hy
      obtain ⟨k, rfl⟩ : ∃ q, k = q + 1 := ⟨k - 1, by omega⟩
      refine ⟨y, hl, ?_, fun j h => hy j h (by omega)⟩
      simp only [laws_markCellS.l0]
      rw [if_neg (by omega), show i = x.length by omega]
    | succ d ih =>
      intro i k y hd hk hl hy
      obtain ⟨k, rfl⟩ : ∃ q, k = q + 1 := ⟨k - 1, by omega⟩
      rw [markCellS_step k y _ i (by omega) (by omega), mk92_next _ (by omega) (by omega)]
      have e := ih (i + 1) k (y.set i (mk92 (m + 2 * (i : Int)))) (by omega) (by omega) (by rw [List.length_set, hl]) (fun j h hj => by
        by_cases hji : j = i
        · subst hji; simp
        · rw [List.getElem_set_ne (by omega)]
          exact hy j (by rw [List.length_set] at h; exact h) (by omega))
      rw [show m + 2 * ((i + 1 : Nat) : Int) = m + 2 * (i : Int) + 2 by omega] at e
      exact e
  obtain ⟨y, hl, e, hy⟩ := key x.length 0 k x (by omega) hk rfl (fun j _ hj => by omega)
  refine ⟨y, hl, ?_, ?_⟩
  · unfold laws_markCellS.f
    rw [show m + 2 * ((0 : Nat) : Int) = m by omega] at e
    exact e
  · have key2 : ∀ d i k, i + d = y.length → d < k → laws_heldCellS.l0 k y (m + 2 * (i : Int)) (i : Int) = some (m + 2 * (y.length : Int)) := by
      intro d
      induction d with
      | zero =>
        intro i k hd hk
        obtain ⟨k, rfl⟩ : ∃ q, k = q + 1 := ⟨k - 1, by omega⟩
        simp only [laws_heldCellS.l0]
        rw [if_neg (by omega), show i = y.length by omega]
      | succ d ih =>
        intro i k hd hk
        obtain ⟨k, rfl⟩ : ∃ q, k = q + 1 := ⟨k - 1, by omega⟩
        rw [heldCellS_step k y _ i (by omega) (by omega) (hy i (by omega)), mk92_next _ (by omega) (by omega)]
        have e := ih (i + 1) k (by omega) (by omega)
        rw [show m + 2 * ((i + 1 : Nat) : Int) = m + 2 * (i : Int) + 2 by omega] at e
        exact e
    have e2 := key2 y.length 0 k (by omega) (by omega)
    rw [show m + 2 * ((0 : Nat) : Int) = m by omega, hl] at e2
    unfold laws_heldCellS.f
    exact e2
def mk127 (c : Int) : S127 := ⟨c, wrap64 (c + 1), wrap64 ((wrap64 (c + 1)) + 1), ((Int.tmod (wrap64 ((wrap64 ((wrap64 (c + 1)) + 1)) + 1)) 3) == 0), wrap64 ((wrap64 ((wrap64 ((wrap64 (c + 1)) + 1)) + 1)) + 1)⟩
theorem mk127_next (c : Int) (h0 : 0 ≤ c) (h1 : c ≤ 4611686018427387904) : wrap64 ((wrap64 ((wrap64 ((wrap64 ((wrap64 (c + 1)) + 1)) + 1)) + 1)) + 1) = c + 5 := by
  rw [wrap_of (x := c + 1) (by omega) (by omega), wrap_of (x := c + 1 + 1) (by omega) (by omega), wrap_of (x := c + 1 + 1 + 1) (by omega) (by omega), wrap_of (x := c + 1 + 1 + 1 + 1) (by omega) (by omega), wrap_of (x := c + 1 + 1 + 1 + 1 + 1) (by omega) (by omega)]
  omega
theorem markSetS_step (k : Nat) (x : List S127) (c : Int) (i : Nat) (hi : i < x.length) (hx : x.length ≤ 9000000000000) : laws_markSetS.l0 (k + 1) x c (i : Int) = laws_markSetS.l0 k (x.set i (mk127 c)) (wrap64 ((wrap64 ((wrap64 ((wrap64 ((wrap64 (c + 1)) + 1)) + 1)) + 1)) + 1)) ((i + 1 : Nat) : Int) := by
  simp only [laws_markSetS.l0]
  rw [if_pos (by omega), if_pos (by omega), wrap_of (x := (i : Int) + 1) (by omega) (by omega)]
  simp only [Option.bind_some, Int.toNat_natCast]
  repeat rw [rd127_set (by simpa only [List.length_set] using hi)]
  simp only [List.set_set]
  rfl
theorem heldSetS_step (k : Nat) (x : List S127) (c : Int) (i : Nat) (hi : i < x.length) (hx : x.length ≤ 9000000000000) (h : x[i] = mk127 c) : laws_heldSetS.l0 (k + 1) x c (i : Int) = laws_heldSetS.l0 k x (wrap64 ((wrap64 ((wrap64 ((wrap64 ((wrap64 (c + 1)) + 1)) + 1)) + 1)) + 1)) ((i + 1 : Nat) : Int) := by
  simp only [laws_heldSetS.l0]
  rw [if_pos (by omega), if_pos (by omega), wrap_of (x := (i : Int) + 1) (by omega) (by omega), rd127_get hi, h]
  simp [mk127]
theorem markSetS_ok (x : List S127) (m : Int) (h0 : 0 ≤ m) (h1 : m ≤ 1000000000000000) (hx : x.length ≤ 9000000000000) (k : Nat) (hk : x.length < k) :
    ∃ y : List S127, y.length = x.length ∧ laws_markSetS.f k x m = some (m + 5 * (x.length : Int), y) ∧ laws_heldSetS.f k y m = some (m + 5 * (x.length : Int)) := by
  have key : ∀ d i k (y : List S127), i + d = x.length → d < k → y.length = x.length → (∀ j (h : j < y.length), j < i → y[j] = mk127 (m + 5 * (j : Int))) →
      ∃ z : List S127, z.length = x.length ∧ laws_markSetS.l0 k y (m + 5 * (i : Int)) (i : Int) = some (m + 5 * (x.length : Int), z) ∧ ∀ j (h : j < z.length), z[j] = mk127 (m + 5 * (j : Int)) := by
    intro d
    induction d with
    | zero =>
      intro i k y hd hk hl hy
      obtain ⟨k, rfl⟩ : ∃ q, k = q + 1 := ⟨k - 1, by omega⟩
      refine ⟨y, hl, ?_, fun j h => hy j h (by omega)⟩
      simp only [laws_markSetS.l0]
      rw [if_neg (by omega), show i = x.length by omega]
    | succ d ih =>
      intro i k y hd hk hl hy
      obtain ⟨k, rfl⟩ : ∃ q, k = q + 1 := ⟨k - 1, by omega⟩
      rw [markSetS_step k y _ i (by omega) (by omega), mk127_next _ (by omega) (by omega)]
      have e := ih (i + 1) k (y.set i (mk127 (m + 5 * (i : Int)))) (by omega) (by omega) (by rw [List.length_set, hl]) (fun j h hj => by
        by_cases hji : j = i
        · subst hji; simp
        · rw [List.getElem_set_ne (by omega)]
          exact hy j (by rw [List.length_set] at h; exact h) (by omega))
      rw [show m + 5 * ((i + 1 : Nat) : Int) = m + 5 * (i : Int) + 5 by omega] at e
      exact e
  obtain ⟨y, hl, e, hy⟩ := key x.length 0 k x (by omega) hk rfl (fun j _ hj => by omega)
  refine ⟨y, hl, ?_, ?_⟩
  · unfold laws_markSetS.f
    rw [show m + 5 * ((0 : Nat) : Int) = m by omega] at e
    exact e
  · have key2 : ∀ d i k, i + d = y.length → d < k → laws_heldSetS.l0 k y (m + 5 * (i : Int)) (i : Int) = some (m + 5 * (y.length : Int)) := by
      intro d
      induction d with
      | zero =>
        intro i k hd hk
        obtain ⟨k, rfl⟩ : ∃ q, k = q + 1 := ⟨k - 1, by omega⟩
        simp only [laws_heldSetS.l0]
        rw [if_neg (by omega), show i = y.length by omega]
      | succ d ih =>
        intro i k hd hk
        obtain ⟨k, rfl⟩ : ∃ q, k = q + 1 := ⟨k - 1, by omega⟩
        rw [heldSetS_step k y _ i (by omega) (by omega) (hy i (by omega)), mk127_next _ (by omega) (by omega)]
        have e := ih (i + 1) k (by omega) (by omega)
        rw [show m + 5 * ((i + 1 : Nat) : Int) = m + 5 * (i : Int) + 5 by omega] at e
        exact e
    have e2 := key2 y.length 0 k (by omega) (by omega)
    rw [show m + 5 * ((0 : Nat) : Int) = m by omega, hl] at e2
    unfold laws_heldSetS.f
    exact e2
theorem markCopyS_full : ∀ (d i : Nat) (x : List S79) (c : Int) (k : Nat), i + d = x.length → x.length ≤ 1048576 → (∀ z ∈ x, z.f1.length ≤ 1048576) → 0 ≤ c → c + 3000000 * (d : Int) ≤ 100000000000000 → d + 1048580 < k → ∃ a y, laws_markCopyS.l0 k x c (i : Int) = some (a, y) ∧ y.length = x.length ∧ (∀ j, j < i → y[j]? = x[j]?) ∧ laws_heldCopyS.l0 k y c (i : Int) = some a ∧ 0 ≤ a ∧ a ≤ c + 3000000 * (d : Int) := by
  intro d
  induction d with
  | zero =>
    intro i x c k hd hl hm h0 h1 hk
    obtain ⟨k, rfl⟩ : ∃ q, k = q + 1 := ⟨k - 1, by omega⟩
    refine ⟨c, x, ?_, rfl, fun _ _ => rfl, ?_, h0, by omega⟩
    · simp only [laws_markCopyS.l0]
      rw [if_neg (by omega)]
    · simp only [laws_heldCopyS.l0]
      rw [if_neg (by omega)]
  | succ d ih =>
    intro i x c k hd hl hm h0 h1 hk
    obtain ⟨k, rfl⟩ : ∃ q, k = q + 1 := ⟨k - 1, by omega⟩
    have hi : i < x.length := by omega
    have hx := hm _ (List.getElem_mem hi)
    have ew : wrap64 (c + 1) = c + 1 := by
      rw [wrap_of (x := c + 1) (by omega) (by omega)]
      try omega
    obtain ⟨y, yl, ym, yh⟩ := markCellS_ok x[i].f1 (c + 1) (by omega) (by omega) (by omega) k (by omega)
    simp only [laws_markCopyS.l0]
    rw [if_pos (by omega), if_pos (by omega), rd79_get hi, ew, ym]
    simp only [Option.bind_some]
    rw [Int.toNat_natCast, wrap_of (x := (i : Int) + 1) (by omega) (by omega)]
    obtain ⟨a, z, e, zl, zk, zh, g1, g2⟩ := ih (i + 1) (x.set i (⟨c, y⟩ : S79)) (c + 1 + 2 * (x[i].f1.length : Int)) k (by rw [List.length_set]; omega) (by rw [List.length_set]; exact hl) (fun z hz => by
      rcases List.mem_or_eq_of_mem_set hz with h | h
      · exact hm z h
      · rw [h]; show y.length ≤ _; omega) (by omega) (by omega) (by omega)
    rw [show ((i + 1 : Nat) : Int) = (i : Int) + 1 from by omega] at e zh
    rw [List.length_set] at zl
    have hz : i < z.length := by omega
    have ez : z[i] = (⟨c, y⟩ : S79) := by
      have h2 := zk i (by omega)
      rw [List.getElem?_eq_getElem hz, List.getElem?_set_self hi] at h2
      exact Option.some.inj h2
    refine ⟨a, z, e, zl, fun j hj => (zk j (by omega)).trans (List.getElem?_set_ne (by omega)), ?_, g1, by omega⟩
    simp only [laws_heldCopyS.l0]
    rw [if_pos (show (i : Int) < (z.length : Int) by omega), if_pos (show 0 ≤ (i : Int) by omega), rd79_get hz, ez]
    simp only [ew, yh, if_true, Option.bind_some]
    rw [if_neg (show ¬ c + 1 + 2 * (x[i].f1.length : Int) < 0 by omega), wrap_of (x := (i : Int) + 1) (by omega) (by omega)]
    exact zh
theorem markRecordS_full : ∀ (d i : Nat) (x : List S45) (c : Int) (k : Nat), i + d = x.length → x.length ≤ 1048576 → (∀ z ∈ x, z.f3.length ≤ 1048576) → 0 ≤ c → c + 6000000 * (d : Int) ≤ 100000000000000 → d + 1048580 < k → ∃ a y, laws_markRecordS.l0 k x c (i : Int) = some (a, y) ∧ y.length = x.length ∧ (∀ j, j < i → y[j]? = x[j]?) ∧ laws_heldRecordS.l0 k y c (i : Int) = some a ∧ 0 ≤ a ∧ a ≤ c + 6000000 * (d : Int) := by
  intro d
  induction d with
  | zero =>
    intro i x c k hd hl hm h0 h1 hk
    obtain ⟨k, rfl⟩ : ∃ q, k = q + 1 := ⟨k - 1, by omega⟩
    refine ⟨c, x, ?_, rfl, fun _ _ => rfl, ?_, h0, by omega⟩
    · simp only [laws_markRecordS.l0]
      rw [if_neg (by omega)]
    · simp only [laws_heldRecordS.l0]
      rw [if_neg (by omega)]
  | succ d ih =>
    intro i x c k hd hl hm h0 h1 hk
    obtain ⟨k, rfl⟩ : ∃ q, k = q + 1 := ⟨k - 1, by omega⟩
    have hi : i < x.length := by omega
    have hx := hm _ (List.getElem_mem hi)
    have ew : wrap64 ((wrap64 ((wrap64 (c + 1)) + 1)) + 1) = c + 3 := by
      rw [wrap_of (x := c + 1) (by omega) (by omega)]; rw [wrap_of (x := c + 1 + 1) (by omega) (by omega)]; rw [wrap_of (x := c + 1 + 1 + 1) (by omega) (by omega)]
      try omega
    obtain ⟨y, yl, ym, yh⟩ := markSetS_ok x[i].f3 (c + 3) (by omega) (by omega) (by omega) k (by omega)
    simp only [laws_markRecordS.l0]
    rw [if_pos (by omega), if_pos (by omega), rd45_get hi, ew, ym]
    simp only [Option.bind_some]
    rw [Int.toNat_natCast, wrap_of (x := (i : Int) + 1) (by omega) (by omega)]
    obtain ⟨a, z, e, zl, zk, zh, g1, g2⟩ := ih (i + 1) (x.set i (⟨c, wrap64 (c + 1), wrap64 ((wrap64 (c + 1)) + 1), y⟩ : S45)) (c + 3 + 5 * (x[i].f3.length : Int)) k (by rw [List.length_set]; omega) (by rw [List.length_set]; exact hl) (fun z hz => by
      rcases List.mem_or_eq_of_mem_set hz with h | h
      · exact hm z h
      · rw [h]; show y.length ≤ _; omega) (by omega) (by omega) (by omega)
    rw [show ((i + 1 : Nat) : Int) = (i : Int) + 1 from by omega] at e zh
    rw [List.length_set] at zl
    have hz : i < z.length := by omega
    have ez : z[i] = (⟨c, wrap64 (c + 1), wrap64 ((wrap64 (c + 1)) + 1), y⟩ : S45) := by
      have h2 := zk i (by omega)
      rw [List.getElem?_eq_getElem hz, List.getElem?_set_self hi] at h2
      exact Option.some.inj h2
    refine ⟨a, z, e, zl, fun j hj => (zk j (by omega)).trans (List.getElem?_set_ne (by omega)), ?_, g1, by omega⟩
    simp only [laws_heldRecordS.l0]
    rw [if_pos (show (i : Int) < (z.length : Int) by omega), if_pos (show 0 ≤ (i : Int) by omega), rd45_get hz, ez]
    simp only [ew, yh, if_true, Option.bind_some]
    rw [if_neg (show ¬ c + 3 + 5 * (x[i].f3.length : Int) < 0 by omega), wrap_of (x := (i : Int) + 1) (by omega) (by omega)]
    exact zh
theorem markInts_full : ∀ (d i : Nat) (x : List Int) (c : Int) (k : Nat), i + d = x.length → 0 ≤ c → c + (d : Int) ≤ 1000000000000000 → x.length ≤ 1048576 → d < k → ∃ y, laws_markInt64S.l0 k x c (i : Int) = some (c + (d : Int), y) ∧ y.length = x.length ∧ (∀ j, j < i → y[j]? = x[j]?) ∧ laws_heldInt64S.l0 k y c (i : Int) = some (c + (d : Int)) := by
  intro d
  induction d with
  | zero =>
    intro i x c k hd h0 h1 hx hk
    obtain ⟨k, rfl⟩ : ∃ q, k = q + 1 := ⟨k - 1, by omega⟩
    refine ⟨x, ?_, rfl, fun _ _ => rfl, ?_⟩
    · simp only [laws_markInt64S.l0]
      rw [if_neg (by omega)]
      simp
    · simp only [laws_heldInt64S.l0]
      rw [if_neg (by omega)]
      simp
  | succ d ih =>
    intro i x c k hd h0 h1 hx hk
    obtain ⟨k, rfl⟩ : ∃ q, k = q + 1 := ⟨k - 1, by omega⟩
    have hi : i < x.length := by omega
    simp only [laws_markInt64S.l0, laws_heldInt64S.l0]
    rw [if_pos (show (i : Int) < (x.length : Int) by omega), if_pos (show 0 ≤ (i : Int) by omega), wrap_of (x := c + 1) (by omega) (by omega), wrap_of (x := (i : Int) + 1) (by omega) (by omega)]
    obtain ⟨y, hy, yl, yk, yh⟩ := ih (i + 1) (x.set (i : Int).toNat c) (c + 1) k (by rw [List.length_set]; omega) (by omega) (by omega) (by rw [List.length_set]; omega) (by omega)
    rw [show ((i + 1 : Nat) : Int) = (i : Int) + 1 from by omega] at hy yh
    rw [List.length_set] at yl
    rw [Int.toNat_natCast] at yk
    have hz : i < y.length := by omega
    have ez : y[i] = c := by
      have h2 := yk i (by omega)
      rw [List.getElem?_eq_getElem hz, List.getElem?_set_self hi] at h2
      exact Option.some.inj h2
    refine ⟨y, hy.trans (congrArg some (Prod.ext (show c + 1 + (d : Int) = c + ((d + 1 : Nat) : Int) by omega) rfl)), yl, fun j hj => (yk j (by omega)).trans (List.getElem?_set_ne (by omega)), ?_⟩
    rw [if_pos (show (i : Int) < (y.length : Int) by omega), rd_get hz, ez, if_pos rfl, yh]
    exact congrArg some (by omega)
theorem markMachine_ok (c : List S79) (r : List S45) (ids : List Int) (hc : c.length ≤ 1048576) (hcm : ∀ x ∈ c, x.f1.length ≤ 1048576) (hr : r.length ≤ 1048576) (hrm : ∀ x ∈ r, x.f3.length ≤ 1048576) (hi : ids.length ≤ 1048576) (k : Nat) (hk : 20000000 < k) : ∃ a y1 y2 y3, laws_markMachine.f k c r ids 1 = some (a, y1, y2, y3) ∧ 0 ≤ a ∧ a ≤ 100000000000000 ∧ ∀ b, laws_heldMachine.f k b y1 y2 y3 1 = some a := by
  obtain ⟨a1, y1, e1, l1, _, f1, g1, b1⟩ := markCopyS_full c.length 0 c 1 k (by omega) hc hcm (by omega) (by omega) (by omega)
  obtain ⟨a2, y2, e2, l2, _, f2, g2, b2⟩ := markRecordS_full r.length 0 r a1 k (by omega) hr hrm g1 (by omega) (by omega)
  obtain ⟨y3, e3, l3, _, f3⟩ := markInts_full ids.length 0 ids a2 k (by omega) g2 (by omega) hi (by omega)
  refine ⟨a2 + (ids.length : Int), y1, y2, y3, ?_, by omega, by omega, fun b => ?_⟩
  · unfold laws_markMachine.f laws_markCopyS.f
    rw [show ((0 : Nat) : Int) = 0 from rfl] at e1 e2 e3
    rw [e1]
    simp only [Option.bind_some]
    unfold laws_markRecordS.f
    rw [e2]
    simp only [Option.bind_some]
    unfold laws_markInt64S.f
    rw [e3]
    rfl
  · unfold laws_heldMachine.f laws_heldCopyS.f
    rw [show ((0 : Nat) : Int) = 0 from rfl] at f1 f2 f3
    rw [f1]
    simp only [Option.bind_some]
    rw [if_neg (by omega)]
    unfold laws_heldRecordS.f
    rw [f2]
    simp only [Option.bind_some]
    rw [if_neg (by omega)]
    unfold laws_heldInt64S.f
    rw [f3]
    simp only [Option.bind_some]
    rw [if_neg (by omega)]
theorem copy3 (l : List S92) (h : l.length ≤ 1048576) : spec_l3Copy.f l = some l ∧ impl_Cell_60.f l = some l := by
  constructor
  · simp only [spec_l3Copy.f, Option.bind_some, List.length_nil, List.nil_append]
    rw [if_pos (by omega)]
  · simp only [impl_Cell_60.f, Option.bind_some, List.length_nil, List.nil_append]
    rw [if_pos (by omega)]
theorem copyRec (x : S45) (h : x.f3.length ≤ 1048576) : spec_l6Record.f x.f0 x.f1 x.f2 x.f3 = some (x.f0, x.f1, x.f2, x.f3) ∧ impl_cloneRecord.f x.f0 x.f1 x.f2 x.f3 = some (x.f0, x.f1, x.f2, x.f3) := by
  constructor
  · simp only [spec_l6Record.f, Option.bind_some, List.length_nil, List.nil_append]
    rw [if_pos (by omega)]
  · simp only [impl_cloneRecord.f, impl_Set_113.f, Option.bind_some, List.length_nil, List.nil_append]
    rw [if_pos (by omega)]
    rfl
theorem specRecs (b b2 : Bool) (c c2 : List S79) (r : List S45) (ids ids2 : List Int) (hr : r.length ≤ 1048576) (hrm : ∀ x ∈ r, x.f3.length ≤ 1048576) : ∀ d i k, i + d = r.length → d < k → spec_l6Copy.l1 k (i : Int) b c r ids b2 c2 (r.take i) ids2 = some (b2, c2, r, ids2) ∧ impl_cloneMachine.l1 k r (r.length : Int) (i : Int) b2 c2 (r.take i) ids2 = some (b2, c2, r, ids2) := by
  intro d
  induction d with
  | zero =>
    intro i k hd hk
    obtain ⟨k, rfl⟩ : ∃ z, k = z + 1 := ⟨k - 1, by omega⟩
    simp only [spec_l6Copy.l1, impl_cloneMachine.l1]
    rw [if_neg (by omega), if_neg (by omega), List.take_of_length_le (by omega)]
    exact ⟨rfl, rfl⟩
  | succ d ih =>
    intro i k hd hk
    obtain ⟨k, rfl⟩ : ∃ z, k = z + 1 := ⟨k - 1, by omega⟩
    have hi : i < r.length := by omega
    have hx := hrm _ (List.getElem_mem hi)
    have hl : (r.take i).length < 2932031007402 := by rw [List.length_take]; omega
    simp only [spec_l6Copy.l1, impl_cloneMachine.l1]
    rw [if_pos (show (i : Int) < (r.length : Int) by omega), if_pos (show 0 ≤ (i : Int) by omega), rd45_get hi, (copyRec r[i] hx).1, (copyRec r[i] hx).2]
    simp only [Option.bind_some]
    rw [if_pos hl, if_pos (show (i : Int) < (r.length : Int) by omega), if_pos (show 0 ≤ (i : Int) by omega), if_pos (show (i : Int) < (r.length : Int) by omega), if_pos hl, wrap_of (x := (i : Int) + 1) (by omega) (by omega), show (i : Int) + 1 = ((i + 1 : Nat) : Int) by omega, show r.take i ++ [(⟨r[i].f0, r[i].f1, r[i].f2, r[i].f3⟩ : S45)] = r.take (i + 1) from by rw [List.take_succ_eq_append_getElem hi]]
    exact ih (i + 1) k (by omega) (by omega)
theorem specCps (b : Bool) (c : List S79) (r : List S45) (ids ids2 : List Int) (hc : c.length ≤ 1048576) (hcm : ∀ x ∈ c, x.f1.length ≤ 1048576) (hr : r.length ≤ 1048576) (hrm : ∀ x ∈ r, x.f3.length ≤ 1048576) : ∀ d i k, i + d = c.length → d + 1048580 < k → spec_l6Copy.l0 k (i : Int) b c r ids b (c.take i) ids2 = some (b, c, r, ids2) ∧ impl_cloneMachine.l0 k c (c.length : Int) (i : Int) b c r ids b (c.take i) ids2 = some (b, c, r, ids2) := by
  intro d
  induction d with
  | zero =>
    intro i k hd hk
    obtain ⟨k, rfl⟩ : ∃ z, k = z + 1 := ⟨k - 1, by omega⟩
    simp only [spec_l6Copy.l0, impl_cloneMachine.l0]
    rw [if_neg (by omega), if_neg (by omega), List.take_of_length_le (by omega)]
    exact specRecs b b c c r ids ids2 hr hrm r.length 0 k (by omega) (by omega)
  | succ d ih =>
    intro i k hd hk
    obtain ⟨k, rfl⟩ : ∃ z, k = z + 1 := ⟨k - 1, by omega⟩
    have hi : i < c.length := by omega
    have hx := hcm _ (List.getElem_mem hi)
    have hl : (c.take i).length < 4398046511104 := by rw [List.length_take]; omega
    simp only [spec_l6Copy.l0, impl_cloneMachine.l0]
    rw [if_pos (show (i : Int) < (c.length : Int) by omega), if_pos (show 0 ≤ (i : Int) by omega), rd79_get hi, (copy3 c[i].f1 hx).1, (copy3 c[i].f1 hx).2]
    simp only [Option.bind_some]
    rw [if_pos hl, if_pos (show (i : Int) < (c.length : Int) by omega), if_pos (show 0 ≤ (i : Int) by omega), if_pos (show (i : Int) < (c.length : Int) by omega), if_pos hl, wrap_of (x := (i : Int) + 1) (by omega) (by omega), show (i : Int) + 1 = ((i + 1 : Nat) : Int) by omega, show c.take i ++ [(⟨c[i].f0, c[i].f1⟩ : S79)] = c.take (i + 1) from by rw [List.take_succ_eq_append_getElem hi]]
    exact ih (i + 1) k (by omega) (by omega)
theorem copy_both (b : Bool) (c : List S79) (r : List S45) (ids : List Int) (hc : c.length ≤ 1048576) (hcm : ∀ x ∈ c, x.f1.length ≤ 1048576) (hr : r.length ≤ 1048576) (hrm : ∀ x ∈ r, x.f3.length ≤ 1048576) (hi : ids.length ≤ 1048576) (k : Nat) (hk : 20000000 < k) : spec_l6Copy.f k b c r ids = some (b, c, r, ids) ∧ impl_cloneMachine.f k b c r ids = some (b, c, r, ids) := by
  have h := specCps b c r ids ids hc hcm hr hrm c.length 0 k (by omega) (by omega)
  rw [show ((0 : Nat) : Int) = 0 from rfl, List.take_zero] at h
  constructor
  · simp only [spec_l6Copy.f, Option.bind_some, List.length_nil, List.nil_append]
    rw [if_pos (by omega)]
    exact h.1
  · simp only [impl_cloneMachine.f, slices_Clone_int64_int64.f, Option.bind_some, List.length_nil, List.nil_append]
    rw [if_pos (by omega)]
    exact h.2
theorem cps_at (l : List S79) : ∀ d i, i + d = l.length → okCps l i d = true → ∀ j, j < l.length → i ≤ j → j = 0 ∨ (rd_T79 l ((j : Int) - 1)).f0 < (rd_T79 l (j : Int)).f0 := by
  intro d
  induction d with
  | zero => intro i hd _ j hj hi; omega
  | succ d ih =>
    intro i hd h j hj hi
    simp only [okCps, Bool.and_eq_true, Bool.or_eq_true, decide_eq_true_eq] at h
    by_cases e : j = i
    · subst e; exact h.1.2.2
    · exact ih (i + 1) (by omega) h.2 j hj (by omega)
theorem cps_rise (l : List S79) (h : okCps l 0 l.length = true) : ∀ t s (_ : s < t) (ht : t < l.length), l[s].f0 < l[t].f0 := by
  intro t
  induction t with
  | zero => intro s hs; omega
  | succ t ih =>
    intro s hs ht
    have h2 := (cps_at l l.length 0 (by omega) h (t + 1) ht (by omega)).resolve_left (by omega)
    rw [show ((t + 1 : Nat) : Int) - 1 = (t : Int) from by omega, rd79_get (show t < l.length by omega), rd79_get ht] at h2
    by_cases e : s = t
    · subst e; exact h2
    · have h1 := ih s (by omega) (by omega)
      omega
theorem p1_cons (a : Int) (x : S79) (l : List S79) : pos1 a (x :: l) = if x.f0 < a then pos1 a l + 1 else 0 := by
  unfold pos1
  rw [List.takeWhile_cons]
  by_cases h : x.f0 < a <;> simp [h]
theorem p1_is (a : Int) : ∀ (l : List S79) (j : Nat), j ≤ l.length → (∀ t (ht : t < l.length), t < j → l[t].f0 < a) → (∀ ht : j < l.length, ¬ l[j].f0 < a) → pos1 a l = j
  | [], j, hj, _, _ => by
    obtain rfl : j = 0 := by simpa using hj
    rfl
  | x :: l, 0, _, _, h2 => by rw [p1_cons, if_neg (show ¬ x.f0 < a from h2 (by simp))]
  | x :: l, j + 1, hj, h1, h2 => by
    rw [p1_cons, if_pos (show x.f0 < a from h1 0 (by simp) (by omega)), p1_is a l j (by simpa using hj) (fun t ht h => h1 (t + 1) (by simpa using ht) (by omega)) (fun ht => h2 (by simpa using ht))]
theorem p1_le (a : Int) : ∀ l : List S79, pos1 a l ≤ l.length
  | [] => Nat.le_refl _
  | x :: l => by
    rw [p1_cons, List.length_cons]
    have := p1_le a l
    split <;> omega
theorem p1_lt (a : Int) : ∀ (l : List S79) (j : Nat) (hj : j < l.length), j < pos1 a l → l[j].f0 < a
  | [], j, hj, _ => by simp at hj
  | x :: l, 0, hj, h => by
    rw [p1_cons] at h
    by_cases e : x.f0 < a
    · exact e
    · rw [if_neg e] at h; omega
  | x :: l, j + 1, hj, h => by
    rw [p1_cons] at h
    by_cases e : x.f0 < a
    · rw [if_pos e] at h; exact p1_lt a l j (by simpa using hj) (by omega)
    · rw [if_neg e] at h; omega
theorem p1_stop (a : Int) : ∀ (l : List S79) (j : Nat) (hj : j < l.length), j = pos1 a l → ¬ l[j].f0 < a
  | [], j, hj, _ => by simp at hj
  | x :: l, 0, hj, h => by
    rw [p1_cons] at h
    by_cases e : x.f0 < a
    · rw [if_pos e] at h; omega
    · exact e
  | x :: l, j + 1, hj, h => by
    rw [p1_cons] at h
    by_cases e : x.f0 < a
    · rw [if_pos e] at h; exact p1_stop a l j (by simpa using hj) (by omega)
    · rw [if_neg e] at h; omega
theorem at_from (l : List S79) (q : Int) (hl : l.length ≤ 1048576) (b : Bool) (r : List S45) (ids : List Int) : ∀ d i k, i + d = l.length → d < k → (∀ t (ht : t < l.length), t < i → l[t].f0 ≠ q) → (spec_l6At.l0 k q (i : Int) b l r ids = some (-1) ∧ ∀ t (ht : t < l.length), l[t].f0 ≠ q) ∨ ∃ j : Nat, ∃ hj : j < l.length, l[j].f0 = q ∧ spec_l6At.l0 k q (i : Int) b l r ids = some (j : Int) := by
  intro d
  induction d with
  | zero =>
    intro i k hd hk hA
    obtain ⟨k, rfl⟩ : ∃ z, k = z + 1 := ⟨k - 1, by omega⟩
    refine .inl ⟨?_, fun t ht => hA t ht (by omega)⟩
    simp only [spec_l6At.l0]
    rw [if_neg (by omega)]
  | succ d ih =>
    intro i k hd hk hA
    obtain ⟨k, rfl⟩ : ∃ z, k = z + 1 := ⟨k - 1, by omega⟩
    have hi : i < l.length := by omega
    simp only [spec_l6At.l0]
    rw [if_pos (show (i : Int) < (l.length : Int) by omega), if_pos (show 0 ≤ (i : Int) by omega), rd79_get hi]
    by_cases h : l[i].f0 = q
    · rw [if_pos h]
      exact .inr ⟨i, hi, h, rfl⟩
    · rw [if_neg h, wrap_of (x := (i : Int) + 1) (by omega) (by omega)]
      have := ih (i + 1) k (by omega) (by omega) (fun t ht hti => by
        by_cases e : t = i
        · subst e; exact h
        · exact hA t ht (by omega))
      rw [show ((i + 1 : Nat) : Int) = (i : Int) + 1 from by omega] at this
      exact this
theorem replace_both (b : Bool) (c : List S79) (r : List S45) (ids : List Int) (a : Int) (x : List S92) (hc : c.length ≤ 1048576) (ho : okCps c 0 c.length = true) (hx : x.length ≤ 1048576) (k : Nat) (hk : 20000000 < k) : ∃ q, spec_l6Replace.f k b c r ids a x = some q ∧ impl_Machine_replace.f c a x = some q ∧ q.length ≤ c.length + 1 ∧ ∀ z ∈ q, z ∈ c ∨ z.f1 = x := by
  have rise := cps_rise c ho
  have m1 := p1_le a c
  have m3 : ∀ t (ht : t < c.length), pos1 a c ≤ t → ¬ c[t].f0 < a := fun t ht h => by
    by_cases e : t = pos1 a c
    · exact p1_stop a c t ht e
    · have h0 := p1_stop a c (pos1 a c) (by omega) rfl
      have := rise t (pos1 a c) (by omega) ht
      omega
  have hall : ((c.drop (pos1 a c)).all fun x => !decide (x.f0 < a)) = true := by
    rw [List.all_eq_true]
    intro y hy
    obtain ⟨i, hi, rfl⟩ := List.getElem_of_mem hy
    rw [List.length_drop] at hi
    rw [List.getElem_drop]
    have := m3 (pos1 a c + i) (by omega) (by omega)
    rw [decide_eq_false this]
    rfl
  have hI : impl_Machine_replace.f c a x = some (putC a x c) := by
    simp only [impl_Machine_replace.f, (copy3 x hx).2, Option.bind_some]
    rw [if_pos ⟨hall, by omega⟩]
  refine ⟨putC a x c, ?_, hI, ?_, ?_⟩
  · have F := at_from c a hc b r ids c.length 0 k (by omega) (by omega) (fun t ht h => by omega)
    rw [show ((0 : Nat) : Int) = 0 from rfl] at F
    simp only [spec_l6Replace.f, spec_l6At.f]
    rcases F with ⟨f1, f2⟩ | ⟨j, hj, f1, f2⟩
    · rw [f1, Option.bind_some, if_neg (by omega), if_pos (by omega)]
      unfold putC foundAt
      have hn : ¬ ∃ ht : pos1 a c < c.length, c[pos1 a c].f0 = a := fun ⟨ht, e⟩ => f2 _ ht e
      rw [decide_eq_false hn]
      simp
    · rw [f2, Option.bind_some, if_pos (by omega), if_pos (by omega), Int.toNat_natCast]
      have e : pos1 a c = j := p1_is a c j (by omega) (fun t ht h => by have := rise j t h hj; omega) (fun ht => by omega)
      have e2 : (c.getD j z79).f0 = a := by
        rw [List.getD_eq_getElem?_getD, List.getElem?_eq_getElem hj]
        exact f1
      have hy : ∃ ht : pos1 a c < c.length, c[pos1 a c].f0 = a := by subst e; exact ⟨hj, f1⟩
      unfold putC foundAt
      rw [decide_eq_true hy, if_pos rfl, e2, e]
  · unfold putC
    split
    · rw [List.length_set]; omega
    · simp; omega
  · intro z hz
    unfold putC at hz
    split at hz
    · rcases List.mem_or_eq_of_mem_set hz with h | rfl
      · exact .inl h
      · exact .inr rfl
    · rcases List.mem_append.1 hz with h | h
      · rcases List.mem_append.1 h with h | h
        · exact .inl (List.mem_of_mem_take h)
        · rw [List.mem_singleton.1 h]; exact .inr rfl
      · exact .inl (List.mem_of_mem_drop h)
theorem replaced_both (b : Bool) (c : List S79) (r : List S45) (ids : List Int) (a : Int) (x : List S92) (hc : c.length ≤ 1048576) (hcm : ∀ x ∈ c, x.f1.length ≤ 1048576) (hr : r.length ≤ 1048576) (hrm : ∀ x ∈ r, x.f3.length ≤ 1048576) (hi : ids.length ≤ 1048576) (hx : x.length ≤ 1048576) (k : Nat) (hk : 20000000 < k) : ∃ vb v1 v2 v3 v4, spec_Replace.f k b c r ids a x = some (vb, v1, v2, v3, v4) ∧ impl_Replace.f k b c r ids a x = some (vb, v1, v2, v3, v4) ∧ v1.length ≤ 1048576 ∧ (∀ x ∈ v1, x.f1.length ≤ 1048576) ∧ v2.length ≤ 1048576 ∧ (∀ x ∈ v2, x.f3.length ≤ 1048576) ∧ v3.length ≤ 1048576 := by
  obtain ⟨v, e1, e2, e3⟩ := machine_ok b c r ids hc hcm hr hrm hi k hk
  obtain ⟨c1, c2⟩ := copy_both b c r ids hc hcm hr hrm hi k hk
  have i1 : spec_l1Region.f a = some (decide (0 ≤ a ∧ a ≤ 5)) := by simp only [spec_l1Region.f, in_, Option.bind_some]
  have i2 : impl_isRegion.f a = some (decide (0 ≤ a ∧ a ≤ 5)) := by simp only [impl_isRegion.f, within_, Option.bind_some]
  simp only [spec_Replace.f, impl_Replace.f, e1, e2, i1, i2, spec_cells x hx k (by omega), impl_cells, Option.bind_some]
  cases v
  · exact ⟨false, [], [], [], false, by simp, by simp, by simp, by simp, by simp, by simp, by simp⟩
  · rw [if_pos rfl, if_pos rfl]
    cases hid : decide (0 ≤ a ∧ a ≤ 5)
    · exact ⟨false, [], [], [], false, by simp, by simp, by simp, by simp, by simp, by simp, by simp⟩
    · rw [if_pos rfl, if_pos rfl]
      cases okCs x
      · exact ⟨false, [], [], [], false, by simp, by simp, by simp, by simp, by simp, by simp, by simp⟩
      · obtain ⟨g1, g2⟩ := e3 rfl
        obtain ⟨q, q1, q2, q3, q4⟩ := replace_both b c r ids a x hc g1 hx k hk
        rw [if_pos rfl, if_pos rfl, c1, c2, (copy3 x hx).1]
        simp only [Option.bind_some, q1, q2]
        refine ⟨b, q, r, ids, true, rfl, rfl, by omega, fun z hz => ?_, hr, hrm, hi⟩
        rcases q4 z hz with h | h
        · exact hcm z h
        · rw [h]; exact hx
theorem FnExactReplace : SFnExactReplace.Pure := by
  intro b l1 l2 l3 z l4 hl1 h1 hl2 h2 hl3 h3 _ hl4 h4
  obtain ⟨K, hK⟩ : ∃ K, 30000000 + l1.length + l2.length + l3.length + l4.length < K := ⟨_, Nat.lt_succ_self _⟩
  refine ⟨K, ?_⟩
  unfold laws_FnExactReplace.f laws_szMachine.f
  obtain ⟨t1, e1, g1⟩ := szCopyS_ok l1 1048576 (by omega) (by omega) hl1 (fun x hx => (h1 x hx).2.1) K (by omega)
  rw [e1]
  simp only [Option.bind_some]
  by_cases n1 : t1 < 0
  · rw [if_pos n1]; simp
  rw [if_neg n1]
  obtain ⟨q1, s1, m1⟩ := g1 (by omega)
  obtain ⟨t2, e2, g2⟩ := szRecordS_ok l2 t1 (by omega) q1 hl2 (fun x hx => (h2 x hx).2.2.2.1) K (by omega)
  rw [e2]
  simp only [Option.bind_some]
  by_cases n2 : t2 < 0
  · rw [if_pos n2]; simp
  rw [if_neg n2]
  obtain ⟨q2, s2, m2⟩ := g2 (by omega)
  rw [szInt64S_ok l3 t2 (by omega) q2 hl3]
  simp only [Option.bind_some]
  by_cases n3 : t2 < (l3.length : Int)
  · rw [if_pos n3]; simp
  rw [if_neg n3, if_neg (show ¬ t2 - (l3.length : Int) < 0 by omega)]
  simp only [Option.bind_some]
  rw [if_neg (show ¬ t2 - (l3.length : Int) < 0 by omega)]
  have s3 : l3.length ≤ 1048576 := by omega
  have hc : (l1.map toCp).length ≤ 1048576 := by rw [List.length_map]; exact s1
  have hr : (l2.map toR).length ≤ 1048576 := by rw [List.length_map]; exact s2
  have hcm : ∀ x ∈ l1.map toCp, x.f1.length ≤ 1048576 := fun x hx => by
    obtain ⟨y, hy, rfl⟩ := List.mem_map.1 hx
    show (y.f1.map toC).length ≤ 1048576
    rw [List.length_map]; exact m1 y hy
  have hrm : ∀ x ∈ l2.map toR, x.f3.length ≤ 1048576 := fun x hx => by
    obtain ⟨y, hy, rfl⟩ := List.mem_map.1 hx
    show (y.f3.map toS).length ≤ 1048576
    rw [List.length_map]; exact m2 y hy
  rw [szCellS_ok l4 (t2 - (l3.length : Int)) (by omega) (by omega) hl4]
  simp only [Option.bind_some]
  by_cases n4 : t2 - (l3.length : Int) < (l4.length : Int)
  · rw [if_pos n4]; simp
  rw [if_neg n4, if_neg (show ¬ t2 - (l3.length : Int) - (l4.length : Int) < 0 by omega)]
  have s4 : l4.length ≤ 1048576 := by omega
  have s4' : (l4.map toC).length ≤ 1048576 := by rw [List.length_map]; exact s4
  obtain ⟨vb, v1, v2, v3, v4, s1', s2', n1', n2', n3', n4', n5'⟩ := replaced_both b (l1.map toCp) (l2.map toR) l3 z (l4.map toC) hc hcm hr hrm s3 s4' K (by omega)
  obtain ⟨a, _, _, _, ma, ha, ha', _⟩ := markMachine_ok (l1.map toCp) (l2.map toR) l3 hc hcm hr hrm s3 K (by omega)
  obtain ⟨q, y1, y2, y3, mq, hq, _, hh⟩ := markMachine_ok v1 v2 v3 n1' n2' n3' n4' n5' K (by omega)
  obtain ⟨y, yl, ym, yh⟩ := markCellS_ok (l4.map toC) a (by omega) (by omega) (by omega) K (by omega)
  have e5 := eqCellS_ok (l4.map toC) (by omega) K (by omega)
  have tc := toCellS_ok l4 s4 K (by omega)
  have em : laws_eqMachine.f K vb v1 v2 v3 vb v1 v2 v3 = some true := by
    simp only [laws_eqMachine.f, eqCopyS_ok _ n1' n2' K (by omega), eqRecordS_ok _ n3' n4' K (by omega), eqInts_ok v3 (by unfold maxLen; omega) K (by omega), Option.bind_some]
    simp
  have ep : laws_eqMachine.f K b (l1.map toCp) (l2.map toR) l3 b (l1.map toCp) (l2.map toR) l3 = some true := by
    simp only [laws_eqMachine.f, eqCopyS_ok _ hc hcm K (by omega), eqRecordS_ok _ hr hrm K (by omega), eqInts_ok l3 hl3 K (by omega), Option.bind_some]
    simp
  have et : laws_toMachine.f K b l1 l2 l3 = some (b, l1.map toCp, l2.map toR, l3) := by
    simp only [laws_toMachine.f, toCopyS_ok l1 s1 m1 K (by omega), toRecordS_ok l2 s2 m2 K (by omega), toInts_ok l3 (by omega) K (by omega), Option.bind_some]
  simp only [et, tc, s1', s2', em, ep, e5, ma, ym, mq, hh, Option.bind_some, if_true]
  rw [if_neg (by omega), if_neg (by omega)]
end Go.Proofs.Ythplaakckfhaaaa.Pure
