/- Proved: the law FnExactInstall answers true at every argument: the program answers as the reference, wherever the law's own guards let the argument in. Conditions: none beyond the given row's. -/
import Derived.Test.YtgdfbjmjgegicaaSFnExactInstall
import Derived.Test.YtgdfbjmjgegicaaGenIn
namespace Go.Proofs.Ytgdfbjmjgegicaa.Pure
open Go.RowKit Go.Proofs.Ytgdfbjmjgegicaa.XIn Go.Proofs.Ytgdfbjmjgegicaa.Opened Go.Proofs.YtgdfbjmjgegicaaW.PrintWords Go.Proofs.YtgdfbjmjgegicaaW.PrintLast Go.Proofs.Ytgdfbjmjgegicaa.SFnExactInstall Go.Proofs.Ytgdfbjmjgegicaa.Gen
set_option linter.unusedSimpArgs false
set_option linter.unusedVariables false
open Go.Proofs.Ytgdfbjmjgegicaa.Aid
theorem in_ (a b c : Int) : spec_l1In.f a b c = some (decide (b ≤ a ∧ a ≤ c)) := by
  unfold spec_l1In.f
  by_cases h : a ≥ b <;> simp [h]
theorem within_ (a b c : Int) : impl_within.f a b c = some (decide (b ≤ a ∧ a ≤ c)) := by
  unfold impl_within.f
  by_cases h : a ≥ b <;> simp [h]
theorem rd30_get {l : List S30} {i : Nat} (h : i < l.length) : rd_T30 l (i : Int) = l[i] := by
  unfold rd_T30
  rw [Int.toNat_natCast, List.getD_eq_getElem?_getD, List.getElem?_eq_getElem h]
  rfl
theorem rd30_set {l : List S30} {i : Nat} (h : i < l.length) (v : S30) : rd_T30 (l.set i v) (i : Int) = v := by
  rw [rd30_get (by rw [List.length_set]; exact h)]
  simp
theorem rd87_get {l : List S87} {i : Nat} (h : i < l.length) : rd_T87 l (i : Int) = l[i] := by
  unfold rd_T87
  rw [Int.toNat_natCast, List.getD_eq_getElem?_getD, List.getElem?_eq_getElem h]
  rfl
theorem rd87_set {l : List S87} {i : Nat} (h : i < l.length) (v : S87) : rd_T87 (l.set i v) (i : Int) = v := by
  rw [rd87_get (by rw [List.length_set]; exact h)]
  simp
/-- A cell is right. -/
def okC (c : S30) : Bool := decide (0 ≤ c.f0 ∧ c.f0 ≤ 4000003) && (decide (-1000000000 ≤ c.f1 ∧ c.f1 ≤ 1000000000) && (decide (c.f0 / 2 % 2 = 1) || decide (c.f1 = 0)))
theorem spec_used (a : Int) : spec_Used.f a = some (decide (0 ≤ a ∧ a ≤ 4000003) && decide (a / 2 % 2 = 1)) := by
  simp only [spec_Used.f, spec_HeadOk.f, in_, Option.bind_some]
  by_cases h : 0 ≤ a ∧ a ≤ 4000003
  · rw [if_pos (by simpa using h), Int.tdiv_eq_ediv_of_nonneg h.1, wrap_of (by omega) (by omega), Int.tmod_eq_emod_of_nonneg (by omega)]
    simp [h]
    rfl
  · rw [if_neg (by simpa using h)]
    simp [h]
theorem spec_cells_from (l : List S30) (hl : l.length ≤ 1048576) : ∀ d i k, i + d = l.length → d < k → spec_CellsOk.l0 k l (i : Int) = some ((l.drop i).all okC) := by
  intro d
  induction d with
  | zero =>
    intro i k hd hk
    obtain ⟨k, rfl⟩ : ∃ m, k = m + 1 := ⟨k - 1, by omega⟩
    simp only [spec_CellsOk.l0]
    rw [if_neg (by omega), List.drop_of_length_le (by omega)]
    rfl
  | succ d ih =>
    intro i k hd hk
    obtain ⟨k, rfl⟩ : ∃ m, k = m + 1 := ⟨k - 1, by omega⟩
    simp only [spec_CellsOk.l0]
    rw [if_pos (by omega), if_pos (by omega), rd30_get (show i < l.length by omega), wrap_of (by omega) (by omega), List.drop_eq_getElem_cons (show i < l.length by omega)]
    have e := ih (i + 1) k (by omega) (by omega)
    rw [show ((i + 1 : Nat) : Int) = (i : Int) + 1 from by omega] at e
    rw [e]
    simp only [spec_HeadOk.f, spec_l1Value.f, in_, spec_used, Option.bind_some, List.all_cons, okC]
    by_cases h1 : 0 ≤ l[i].f0 ∧ l[i].f0 ≤ 4000003 <;> by_cases h2 : -1000000000 ≤ l[i].f1 ∧ l[i].f1 ≤ 1000000000 <;> by_cases h3 : l[i].f0 / 2 % 2 = 1 <;> by_cases h4 : l[i].f1 = 0 <;> simp [h1, h2, h3, h4]
def okCs (l : List S30) : Bool := decide (l.length = 6) && l.all okC
theorem spec_cells (l : List S30) (hl : l.length ≤ 1048576) (k : Nat) (hk : l.length < k) : spec_CellsOk.f k l = some (okCs l) := by
  unfold spec_CellsOk.f okCs
  by_cases h : l.length = 6
  · rw [if_pos (by omega)]
    have e := spec_cells_from l hl l.length 0 k (by omega) hk
    rw [show ((0 : Nat) : Int) = 0 from rfl] at e
    rw [e]
    simp [h]
  · rw [if_neg (by omega)]
    simp [h]
theorem impl_cell (x : S30) : impl_areCells_1.f x.f0 x.f1 = some (!okC x) := by
  simp only [impl_areCells_1.f, impl_isHead.f, impl_isValue.f, within_, Option.bind_some, okC]
  by_cases h1 : 0 ≤ x.f0 ∧ x.f0 ≤ 4000003
  · by_cases h2 : -1000000000 ≤ x.f1 ∧ x.f1 ≤ 1000000000
    · rw [if_pos (by simpa using h1), if_pos (by simpa using h2), and2]
      by_cases h3 : x.f0 / 2 % 2 = 1
      · rw [if_neg (by omega)]
        simp [h1, h2, h3]
      · rw [if_pos (by omega)]
        by_cases h4 : x.f1 = 0 <;> simp [h1, h2, h3, h4]
    · rw [if_pos (by simpa using h1), if_neg (by simpa using h2)]
      simp [h1, h2]
  · rw [if_neg (by simpa using h1)]
    simp [h1]
theorem impl_cells (l : List S30) : impl_areCells.f l = some (okCs l) := by
  unfold impl_areCells.f okCs
  by_cases h : l.length = 6
  · rw [if_pos (by omega)]
    obtain ⟨r, e, hr⟩ := idx_total (fun x : S30 => impl_areCells_1.f x.f0 x.f1) (fun x => !okC x) l (fun x _ => impl_cell x) 0
    simp only [impl_Cell_105.f, e, Option.bind_some, hr]
    rw [← List.not_all_eq_any_not]
    simp [h]
  · rw [if_neg (by omega)]
    simp [h]
def toC (p : S87) : S30 := ⟨p.f0, p.f1⟩
theorem toCellS_ok (l : List S87) (hl : l.length ≤ 1048576) (k : Nat) (hk : l.length < k) : laws_toCellS.f k l = some (l.map toC) := by
  unfold laws_toCellS.f
  rw [if_pos (by omega), if_pos (by omega)]
  exact loop_to (fun k (s : List S30 × Int) => laws_toCellS.l0 k l s.1 s.2) (fun i s => s.2 = (i : Int) ∧ s.1.length = (l.map toC).length ∧ s.1.take i = (l.map toC).take i) l.length 0 (l.map toC)
    (fun k i s hk hi hP => ⟨(s.1.set s.2.toNat (toC l[i]), wrap64 (s.2 + 1)), by
      obtain ⟨h1, h2, h3⟩ := hP
      refine ⟨by show wrap64 (s.2 + 1) = _; rw [h1, wrap_of (by omega) (by omega)]; omega, by show (s.1.set _ _).length = _; rw [List.length_set, h2], ?_⟩
      show (s.1.set s.2.toNat (toC l[i])).take (i + 1) = _
      rw [h1, Int.toNat_natCast]
      exact take_next h2 (by simpa using hi) h3 (by simp), by
      obtain ⟨h1, h2, h3⟩ := hP
      rw [List.length_map] at h2
      show laws_toCellS.l0 (k + 1) l s.1 s.2 = _
      simp only [laws_toCellS.l0, laws_toCell.f]
      rw [if_pos (by omega), if_pos (by omega), h1, rd87_get hi]
      simp only [Option.bind_some]
      rw [if_pos (by omega)]
      rfl⟩)
    (fun k s hk hP => by
      obtain ⟨h1, h2, h3⟩ := hP
      show laws_toCellS.l0 (k + 1) l s.1 s.2 = _
      simp only [laws_toCellS.l0]
      rw [if_neg (by omega)]
      rw [List.take_of_length_le (by rw [h2, List.length_map]; omega), List.take_of_length_le (by simp)] at h3
      rw [h3]) 0 k (List.replicate ((l.length : Int)).toNat z30, 0) (by omega) (by omega) ⟨rfl, by simp, by simp⟩
theorem eqCellS_ok (l : List S30) (hl : l.length ≤ 9000000000000) (k : Nat) (hk : l.length < k) : laws_eqCellS.f k l l = some true := by
  unfold laws_eqCellS.f
  rw [if_pos rfl]
  exact loop_to (fun k (s : Int) => laws_eqCellS.l0 k l l s) (fun i s => s = (i : Int)) l.length 0 true
    (fun k i s hk hi hP => ⟨wrap64 (s + 1), by rw [hP, wrap_of (by omega) (by omega)]; omega, by
      show laws_eqCellS.l0 (k + 1) l l s = _
      simp only [laws_eqCellS.l0]
      rw [if_pos (by omega), if_pos (by omega), if_pos (by omega)]
      simp [laws_eqCell.f]⟩)
    (fun k s _ hP => by
      show laws_eqCellS.l0 (k + 1) l l s = _
      simp only [laws_eqCellS.l0]
      rw [if_neg (by omega)]) 0 k 0 (by omega) (by omega) rfl
theorem szCellS_ok (l : List S87) (a : Int) (ha : 0 ≤ a) (ha' : a ≤ 1048576) (hl : l.length ≤ maxLen) : laws_szCellS.f l a = some (if a < (l.length : Int) then -1 else a - (l.length : Int)) := by
  unfold maxLen at hl
  unfold laws_szCellS.f
  rw [wrap_of (by omega) (by omega)]
  by_cases h : a < (l.length : Int)
  · rw [if_pos (by omega), if_pos h]
  · rw [if_neg (by omega), if_neg h]
theorem okCs_head {l : List S30} (h : okCs l = true) {i : Nat} (hi : i < l.length) : 0 ≤ l[i].f0 ∧ l[i].f0 ≤ 4000003 := by
  unfold okCs at h
  rw [Bool.and_eq_true, List.all_eq_true] at h
  have e := h.2 l[i] (List.getElem_mem hi)
  unfold okC at e
  rw [Bool.and_eq_true] at e
  exact of_decide_eq_true e.1
theorem okCs_len {l : List S30} (h : okCs l = true) : l.length = 6 := by
  unfold okCs at h
  rw [Bool.and_eq_true] at h
  exact of_decide_eq_true h.1
theorem rd59_get {l : List S59} {i : Nat} (h : i < l.length) : rd_T59 l (i : Int) = l[i] := by
  unfold rd_T59
  rw [Int.toNat_natCast, List.getD_eq_getElem?_getD, List.getElem?_eq_getElem h]
  rfl
theorem rd59_set {l : List S59} {i : Nat} (h : i < l.length) (v : S59) : rd_T59 (l.set i v) (i : Int) = v := by
  rw [rd59_get (by rw [List.length_set]; exact h)]
  simp
theorem rd97_get {l : List S97} {i : Nat} (h : i < l.length) : rd_T97 l (i : Int) = l[i] := by
  unfold rd_T97
  rw [Int.toNat_natCast, List.getD_eq_getElem?_getD, List.getElem?_eq_getElem h]
  rfl
theorem rd97_set {l : List S97} {i : Nat} (h : i < l.length) (v : S97) : rd_T97 (l.set i v) (i : Int) = v := by
  rw [rd97_get (by rw [List.length_set]; exact h)]
  simp
theorem or1 (n : Int) (h0 : 0 ≤ n) (h1 : n ≤ 4611686018427387904) : Go.bits .or .i64 n 1 = 2 * (n / 2) + 1 := by
  show IntKind.i64.wrap ((BitVec.ofInt 64 n ||| BitVec.ofInt 64 1).toNat : Nat) = _
  have h1' : (BitVec.ofInt 64 1).toNat = 1 := by decide
  obtain ⟨a, rfl⟩ : ∃ a : Nat, n = (a : Int) := ⟨n.toNat, by omega⟩
  have h2 : (BitVec.ofInt 64 (a : Int)).toNat = a := by rw [BitVec.ofInt_natCast, BitVec.toNat_ofNat]; exact Nat.mod_eq_of_lt (by omega)
  rw [BitVec.toNat_or, h1', h2]
  have e1 : (a ||| 1) / 2 = a / 2 := by rw [Nat.or_div_two]; simp
  have e2 : (a ||| 1) % 2 ^ 1 = (a % 2 ^ 1) ||| (1 % 2 ^ 1) := Nat.or_mod_two_pow
  have e3 : (a ||| 1) % 2 = 1 := by
    have : a % 2 = 0 ∨ a % 2 = 1 := by omega
    have e2' : (a ||| 1) % 2 = (a % 2) ||| 1 := e2
    rcases this with h | h <;> rw [e2', h] <;> rfl
  rw [wraps_i64 _ (Int.natCast_nonneg _) (by omega)]
  omega
theorem andNot1 (n : Int) (h0 : 0 ≤ n) (h1 : n ≤ 4611686018427387904) : Go.bits .andNot .i64 n 1 = 2 * (n / 2) := by
  show IntKind.i64.wrap ((BitVec.ofInt 64 n &&& ~~~ (BitVec.ofInt 64 1)).toNat : Nat) = _
  have h1' : (~~~ (BitVec.ofInt 64 1)).toNat = 18446744073709551614 := by decide
  obtain ⟨a, rfl⟩ : ∃ a : Nat, n = (a : Int) := ⟨n.toNat, by omega⟩
  have h2 : (BitVec.ofInt 64 (a : Int)).toNat = a := by rw [BitVec.ofInt_natCast, BitVec.toNat_ofNat]; exact Nat.mod_eq_of_lt (by omega)
  rw [BitVec.toNat_and, h1', h2]
  have e1 : (a &&& 18446744073709551614) / 2 = a / 2 := by
    rw [Nat.and_div_two, show 18446744073709551614 / 2 = 2 ^ 63 - 1 by decide, Nat.and_two_pow_sub_one_eq_mod]
    exact Nat.mod_eq_of_lt (by omega)
  have e2 : (a &&& 18446744073709551614) % 2 ^ 1 = (a % 2 ^ 1) &&& (18446744073709551614 % 2 ^ 1) := Nat.and_mod_two_pow
  have e3 : (a &&& 18446744073709551614) % 2 = 0 := by
    have e2' : (a &&& 18446744073709551614) % 2 = (a % 2) &&& 0 := e2
    rw [e2', Nat.and_zero]
  rw [wraps_i64 _ (Int.natCast_nonneg _) (by omega)]
  omega
def okS (x : S59) : Bool := decide (0 ≤ x.f0 ∧ x.f0 ≤ 5) && (decide (0 ≤ x.f1 ∧ x.f1 ≤ 5) && (decide (-1000000000 ≤ x.f2 ∧ x.f2 ≤ 1000000000) && decide (0 ≤ x.f4 ∧ x.f4 ≤ 999999)))
theorem spec_set (x : S59) : spec_SetOk.f x.f0 x.f1 x.f2 x.f3 x.f4 = some (okS x) := by
  simp only [spec_SetOk.f, spec_l1Region.f, spec_l1Slot.f, spec_l1Value.f, in_, Option.bind_some, okS]
  by_cases h1 : 0 ≤ x.f0 ∧ x.f0 ≤ 5 <;> by_cases h2 : 0 ≤ x.f1 ∧ x.f1 ≤ 5 <;> by_cases h3 : -1000000000 ≤ x.f2 ∧ x.f2 ≤ 1000000000 <;> simp [h1, h2, h3]
theorem impl_set (x : S59) : impl_isSet.f x.f0 x.f1 x.f2 x.f3 x.f4 = some (okS x) := by
  simp only [impl_isSet.f, impl_isRegion.f, impl_isSlot.f, impl_isValue.f, within_, Option.bind_some, okS]
  by_cases h1 : 0 ≤ x.f0 ∧ x.f0 ≤ 5 <;> by_cases h2 : 0 ≤ x.f1 ∧ x.f1 ≤ 5 <;> by_cases h3 : -1000000000 ≤ x.f2 ∧ x.f2 ≤ 1000000000 <;> simp [h1, h2, h3]
/-- The set at place i is right, and stands rightly behind the one ahead of it. -/
def stepS (l : List S59) (i : Nat) : Bool := okS (rd_T59 l (i : Int)) && (decide (i = 0) || (decide ((rd_T59 l (i : Int)).f0 = (rd_T59 l 0).f0) && decide ((rd_T59 l ((i : Int) - 1)).f1 < (rd_T59 l (i : Int)).f1)))
def okSs (l : List S59) : Nat → Nat → Bool
  | _, 0 => true
  | i, d + 1 => stepS l i && okSs l (i + 1) d
theorem spec_sets_from (l : List S59) (hl : l.length ≤ 1048576) : ∀ d i k, i + d = l.length → 2 * d + 2 < k → spec_l2Sets.l0 k l (i : Int) = some (okSs l i d) := by
  intro d
  induction d with
  | zero =>
    intro i k hd hk
    obtain ⟨k, rfl⟩ : ∃ q, k = q + 1 := ⟨k - 1, by omega⟩
    simp only [spec_l2Sets.l0]
    rw [if_neg (by omega)]
    rfl
  | succ d ih =>
    intro i k hd hk
    obtain ⟨k, rfl⟩ : ∃ q, k = q + 1 := ⟨k - 1, by omega⟩
    have e := ih (i + 1) k (by omega) (by omega)
    rw [show ((i + 1 : Nat) : Int) = (i : Int) + 1 from by omega] at e
    simp only [spec_l2Sets.l0, spec_set, Option.bind_some, if_pos (show (i : Int) < (l.length : Int) by omega), if_pos (show (0 : Int) ≤ (i : Int) by omega), wrap_of (x := (i : Int) + 1) (by omega) (by omega), e, okSs, stepS]
    by_cases h0 : (i : Int) > 0
    · have h0' : ¬ i = 0 := by omega
      simp only [if_pos h0, wrap_of (x := (i : Int) - 1) (by omega) (by omega), if_pos (show 0 ≤ (i : Int) - 1 by omega), if_pos (show (i : Int) - 1 < (l.length : Int) by omega), if_pos (show (0 : Int) < (l.length : Int) by omega)]
      by_cases a2 : (rd_T59 l (i : Int)).f1 ≤ (rd_T59 l ((i : Int) - 1)).f1
      · have a2' : ¬ (rd_T59 l ((i : Int) - 1)).f1 < (rd_T59 l (i : Int)).f1 := by omega
        cases okS (rd_T59 l (i : Int)) <;> simp [h0', a2, a2']
      · have a2' : (rd_T59 l ((i : Int) - 1)).f1 < (rd_T59 l (i : Int)).f1 := by omega
        by_cases a3 : (rd_T59 l (i : Int)).f0 = (rd_T59 l 0).f0 <;> cases okS (rd_T59 l (i : Int)) <;> simp [h0', a2, a2', a3]
    · have h0' : i = 0 := by omega
      rw [if_neg h0]
      cases okS (rd_T59 l (i : Int)) <;> simp [h0']
theorem impl_sets_from (l : List S59) (hl : l.length ≤ 1048576) : ∀ d i k, i + d = l.length → 2 * d + 2 < k → impl_areSets.l0 k l l (l.length : Int) (i : Int) = some (okSs l i d) := by
  intro d
  induction d with
  | zero =>
    intro i k hd hk
    obtain ⟨k, rfl⟩ : ∃ q, k = q + 1 := ⟨k - 1, by omega⟩
    simp only [impl_areSets.l0]
    rw [if_neg (by omega)]
    rfl
  | succ d ih =>
    intro i k hd hk
    obtain ⟨k, rfl⟩ : ∃ q, k = q + 1 := ⟨k - 1, by omega⟩
    have e := ih (i + 1) k (by omega) (by omega)
    rw [show ((i + 1 : Nat) : Int) = (i : Int) + 1 from by omega] at e
    simp only [impl_areSets.l0, impl_set, Option.bind_some, if_pos (show (i : Int) < (l.length : Int) by omega), if_pos (show (0 : Int) ≤ (i : Int) by omega), if_pos (show (0 : Int) < (l.length : Int) by omega), wrap_of (x := (i : Int) + 1) (by omega) (by omega), e, okSs, stepS]
    by_cases h0 : (i : Int) > 0
    · have h0' : ¬ i = 0 := by omega
      simp only [if_pos h0, wrap_of (x := (i : Int) - 1) (by omega) (by omega), if_pos (show 0 ≤ (i : Int) - 1 by omega), if_pos (show (i : Int) - 1 < (l.length : Int) by omega)]
      by_cases a2 : (rd_T59 l (i : Int)).f1 ≤ (rd_T59 l ((i : Int) - 1)).f1
      · have a2' : ¬ (rd_T59 l ((i : Int) - 1)).f1 < (rd_T59 l (i : Int)).f1 := by omega
        by_cases a3 : (rd_T59 l (i : Int)).f0 = (rd_T59 l 0).f0 <;> cases okS (rd_T59 l (i : Int)) <;> simp [h0', a2, a2', a3]
      · have a2' : (rd_T59 l ((i : Int) - 1)).f1 < (rd_T59 l (i : Int)).f1 := by omega
        by_cases a3 : (rd_T59 l (i : Int)).f0 = (rd_T59 l 0).f0 <;> cases okS (rd_T59 l (i : Int)) <;> simp [h0', a2, a2', a3]
    · have h0' : i = 0 := by omega
      subst h0'
      rw [if_neg h0]
      cases okS (rd_T59 l ((0 : Nat) : Int)) <;> simp
theorem spec_sets (l : List S59) (hl : l.length ≤ 1048576) (k : Nat) (hk : 2 * l.length + 2 < k) : spec_l2Sets.f k l = some (okSs l 0 l.length) := spec_sets_from l hl l.length 0 k (by omega) hk
theorem impl_sets (l : List S59) (hl : l.length ≤ 1048576) (k : Nat) (hk : 2 * l.length + 2 < k) : impl_areSets.f k l = some (okSs l 0 l.length) := impl_sets_from l hl l.length 0 k (by omega) hk
theorem okSs_at (l : List S59) : ∀ d i, okSs l i d = true → ∀ j, i ≤ j → j < i + d → okS (rd_T59 l (j : Int)) = true := by
  intro d
  induction d with
  | zero => intro i _ j h1 h2; omega
  | succ d ih =>
    intro i h j h1 h2
    simp only [okSs, Bool.and_eq_true] at h
    by_cases hj : j = i
    · subst hj
      have := h.1
      simp only [stepS, Bool.and_eq_true] at this
      exact this.1
    · exact ih (i + 1) h.2 j (by omega) (by omega)
theorem okS_slot {x : S59} (h : okS x = true) : 0 ≤ x.f1 ∧ x.f1 ≤ 5 := by
  simp only [okS, Bool.and_eq_true, decide_eq_true_eq] at h
  exact h.2.1
theorem okS_ver {x : S59} (h : okS x = true) : 0 ≤ x.f4 ∧ x.f4 ≤ 999999 := by
  simp only [okS, Bool.and_eq_true, decide_eq_true_eq] at h
  exact h.2.2.2
theorem rd30_set_if (x : List S30) (n : Nat) (v : S30) (j : Int) (hn : n < x.length) : rd_T30 (x.set n v) j = if j.toNat = n then v else rd_T30 x j := by
  unfold rd_T30
  rw [List.getD_eq_getElem?_getD, List.getD_eq_getElem?_getD, List.getElem?_set]
  by_cases h : n = j.toNat
  · rw [if_pos h, if_pos hn, if_pos h.symm]
    rfl
  · rw [if_neg h, if_neg (fun e => h e.symm)]
def inv6 (x : List S30) : Prop := x.length = 6 ∧ ∀ j : Int, 0 ≤ (rd_T30 x j).f0 ∧ (rd_T30 x j).f0 ≤ 4000003
theorem inv6_set {x : List S30} (h : inv6 x) {n : Nat} {v : S30} (hn : n < 6) (hv : 0 ≤ v.f0 ∧ v.f0 ≤ 4000003) : inv6 (x.set n v) := by
  refine ⟨by rw [List.length_set]; exact h.1, fun j => ?_⟩
  rw [rd30_set_if x n v j (by rw [h.1]; exact hn)]
  by_cases hj : j.toNat = n
  · rw [if_pos hj]; exact hv
  · rw [if_neg hj]; exact h.2 j
theorem inv6_of {l : List S30} (h : okCs l = true) : inv6 l := by
  refine ⟨okCs_len h, fun j => ?_⟩
  by_cases hj : j.toNat < l.length
  · have e : rd_T30 l j = l[j.toNat] := by
      unfold rd_T30
      rw [List.getD_eq_getElem?_getD, List.getElem?_eq_getElem hj]; rfl
    rw [e]
    exact okCs_head h hj
  · have e : rd_T30 l j = z30 := by
      unfold rd_T30
      rw [List.getD_eq_getElem?_getD, List.getElem?_eq_none (by omega)]; rfl
    rw [e]
    exact ⟨by decide, by decide⟩
theorem quarter (x : Int) (h0 : 0 ≤ x) (h1 : x ≤ 4000003) : wrap64 (Int.tdiv x 4) = x / 4 := by
  rw [Int.tdiv_eq_ediv_of_nonneg h0, wrap_of (by omega) (by omega)]
theorem spec_ver (a : Int) (h : 0 ≤ a ∧ a ≤ 4000003) : spec_Version.f a = some (a / 4) := by
  simp only [spec_Version.f, spec_HeadOk.f, in_, Option.bind_some]
  rw [if_pos (by simpa using h), quarter a h.1 h.2]
def toS (p : S97) : S59 := ⟨p.f0, p.f1, p.f2, p.f3, p.f4⟩
theorem toSetS_ok (l : List S97) (hl : l.length ≤ 1048576) (k : Nat) (hk : l.length < k) : laws_toSetS.f k l = some (l.map toS) := by
  unfold laws_toSetS.f
  rw [if_pos (by omega), if_pos (by omega)]
  exact loop_to (fun k (s : List S59 × Int) => laws_toSetS.l0 k l s.1 s.2) (fun i s => s.2 = (i : Int) ∧ s.1.length = (l.map toS).length ∧ s.1.take i = (l.map toS).take i) l.length 0 (l.map toS)
    (fun k i s hk hi hP => ⟨(s.1.set s.2.toNat (toS l[i]), wrap64 (s.2 + 1)), by
      obtain ⟨h1, h2, h3⟩ := hP
      refine ⟨by show wrap64 (s.2 + 1) = _; rw [h1, wrap_of (by omega) (by omega)]; omega, by show (s.1.set _ _).length = _; rw [List.length_set, h2], ?_⟩
      show (s.1.set s.2.toNat (toS l[i])).take (i + 1) = _
      rw [h1, Int.toNat_natCast]
      exact take_next h2 (by simpa using hi) h3 (by simp), by
      obtain ⟨h1, h2, h3⟩ := hP
      rw [List.length_map] at h2
      show laws_toSetS.l0 (k + 1) l s.1 s.2 = _
      simp only [laws_toSetS.l0, laws_toSet.f]
      rw [if_pos (by omega), if_pos (by omega), h1, rd97_get hi]
      simp only [Option.bind_some]
      rw [if_pos (by omega)]
      rfl⟩)
    (fun k s hk hP => by
      obtain ⟨h1, h2, h3⟩ := hP
      show laws_toSetS.l0 (k + 1) l s.1 s.2 = _
      simp only [laws_toSetS.l0]
      rw [if_neg (by omega)]
      rw [List.take_of_length_le (by rw [h2, List.length_map]; omega), List.take_of_length_le (by simp)] at h3
      rw [h3]) 0 k (List.replicate ((l.length : Int)).toNat z59, 0) (by omega) (by omega) ⟨rfl, by simp, by simp⟩
theorem eqSetS_ok (l : List S59) (hl : l.length ≤ 9000000000000) (k : Nat) (hk : l.length < k) : laws_eqSetS.f k l l = some true := by
  unfold laws_eqSetS.f
  rw [if_pos rfl]
  exact loop_to (fun k (s : Int) => laws_eqSetS.l0 k l l s) (fun i s => s = (i : Int)) l.length 0 true
    (fun k i s hk hi hP => ⟨wrap64 (s + 1), by rw [hP, wrap_of (by omega) (by omega)]; omega, by
      show laws_eqSetS.l0 (k + 1) l l s = _
      simp only [laws_eqSetS.l0]
      rw [if_pos (by omega), if_pos (by omega), if_pos (by omega)]
      simp [laws_eqSet.f]⟩)
    (fun k s _ hP => by
      show laws_eqSetS.l0 (k + 1) l l s = _
      simp only [laws_eqSetS.l0]
      rw [if_neg (by omega)]) 0 k 0 (by omega) (by omega) rfl
theorem szSetS_ok (l : List S97) (a : Int) (ha : 0 ≤ a) (ha' : a ≤ 1048576) (hl : l.length ≤ maxLen) : laws_szSetS.f l a = some (if a < (l.length : Int) then -1 else a - (l.length : Int)) := by
  unfold maxLen at hl
  unfold laws_szSetS.f
  rw [wrap_of (by omega) (by omega)]
  by_cases h : a < (l.length : Int)
  · rw [if_pos (by omega), if_pos h]
  · rw [if_neg (by omega), if_neg h]
def mk30 (c : Int) : S30 := ⟨c, wrap64 (c + 1)⟩
theorem mk30_next (c : Int) (h0 : 0 ≤ c) (h1 : c ≤ 4611686018427387904) : wrap64 ((wrap64 (c + 1)) + 1) = c + 2 := by
  rw [wrap_of (x := c + 1) (by omega) (by omega), wrap_of (x := c + 1 + 1) (by omega) (by omega)]
  omega
theorem markCellS_step (k : Nat) (x : List S30) (c : Int) (i : Nat) (hi : i < x.length) (hx : x.length ≤ 9000000000000) : laws_markCellS.l0 (k + 1) x c (i : Int) = laws_markCellS.l0 k (x.set i (mk30 c)) (wrap64 ((wrap64 (c + 1)) + 1)) ((i + 1 : Nat) : Int) := by
  simp only [laws_markCellS.l0]
  rw [if_pos (by omega), if_pos (by omega), wrap_of (x := (i : Int) + 1) (by omega) (by omega)]
  simp only [Option.bind_some, Int.toNat_natCast]
  repeat rw [rd30_set (by simpa only [List.length_set] using hi)]
  simp only [List.set_set]
  rfl
theorem heldCellS_step (k : Nat) (x : List S30) (c : Int) (i : Nat) (hi : i < x.length) (hx : x.length ≤ 9000000000000) (h : x[i] = mk30 c) : laws_heldCellS.l0 (k + 1) x c (i : Int) = laws_heldCellS.l0 k x (wrap64 ((wrap64 (c + 1)) + 1)) ((i + 1 : Nat) : Int) := by
  simp only [laws_heldCellS.l0]
  rw [if_pos (by omega), if_pos (by omega), wrap_of (x := (i : Int) + 1) (by omega) (by omega), rd30_get hi, h]
  simp [mk30]
theorem markCellS_ok (x : List S30) (m : Int) (h0 : 0 ≤ m) (h1 : m ≤ 1000000000000000) (hx : x.length ≤ 9000000000000) (k : Nat) (hk : x.length < k) :
    ∃ y : List S30, y.length = x.length ∧ laws_markCellS.f k x m = some (m + 2 * (x.length : Int), y) ∧ laws_heldCellS.f k y m = some (m + 2 * (x.length : Int)) := by
  have key : ∀ d i k (y : List S30), i + d = x.length → d < k → y.length = x.length → (∀ j (h : j < y.length), j < i → y[j] = mk30 (m + 2 * (j : Int))) →
      ∃ z : List S30, z.length = x.length ∧ laws_markCellS.l0 k y (m + 2 * (i : Int)) (i : Int) = some (m + 2 * (x.length : Int), z) ∧ ∀ j (h : j < z.length), z[j] = mk30 (m + 2 * (j : Int)) := by
    intro d
    induction d with
    | zero =>
      intro i k y hd hk hl hy
      obtain ⟨k, rfl⟩ : ∃ q, k = q + 1 := ⟨k - 1, by omega⟩
      refine ⟨y, hl, ?_, fun j h => hy j h (by omega)⟩
      simp only [laws_markCellS.l0]
      rw [if_neg (by omega), show i = x.length by omega]
    | succ d ih =>
      intro i k y hd hk hl hy
      obtain ⟨k, rfl⟩ : ∃ q, k = q + 1 := ⟨k - 1, by omega⟩
      rw [markCellS_step k y _ i (by omega) (by omega), mk30_next _ (by omega) (by omega)]
      have e := ih (i + 1) k (y.set i (mk30 (m + 2 * (i : Int)))) (by omega) (by omega) (by rw [List.length_set, hl]) (fun j h hj => by
        by_cases hji : j = i
        · subst hji; simp
        · rw [List.getElem_set_ne (by omega)]
          exact hy j (by rw [List.length_set] at h; exact h) (by omega))
      rw [show m + 2 * ((i + 1 : Nat) : Int) = m + 2 * (i : Int) + 2 by omega] at e
      exact e
  obtain ⟨y, hl, e, hy⟩ := key x.length 0 k x (by omega) hk rfl (fun j _ hj => by omega)
  refine ⟨y, hl, ?_, ?_⟩
  · unfold laws_markCellS.f
    rw [show m + 2 * ((0 : Nat) : Int) = m by omega] at e
    exact e
  · have key2 : ∀ d i k, i + d = y.length → d < k → laws_heldCellS.l0 k y (m + 2 * (i : Int)) (i : Int) = some (m + 2 * (y.length : Int)) := by
      intro d
      induction d with
      | zero =>
        intro i k hd hk
        obtain ⟨k, rfl⟩ : ∃ q, k = q + 1 := ⟨k - 1, by omega⟩
        simp only [laws_heldCellS.l0]
        rw [if_neg (by omega), show i = y.length by omega]
      | succ d ih =>
        intro i k hd hk
        obtain ⟨k, rfl⟩ : ∃ q, k = q + 1 := ⟨k - 1, by omega⟩
        rw [heldCellS_step k y _ i (by omega) (by omega) (hy i (by omega)), mk30_next _ (by omega) (by omega)]
        have e := ih (i + 1) k (by omega) (by omega)
        rw [show m + 2 * ((i + 1 : Nat) : Int) = m + 2 * (i : Int) + 2 by omega] at e
        exact e
    have e2 := key2 y.length 0 k (by omega) (by omega)
    rw [show m + 2 * ((0 : Nat) : Int) = m by omega, hl] at e2
    unfold laws_heldCellS.f
    exact e2
def mk59 (c : Int) : S59 := ⟨c, wrap64 (c + 1), wrap64 ((wrap64 (c + 1)) + 1), ((Int.tmod (wrap64 ((wrap64 ((wrap64 (c + 1)) + 1)) + 1)) 3) == 0), wrap64 ((wrap64 ((wrap64 ((wrap64 (c + 1)) + 1)) + 1)) + 1)⟩
theorem mk59_next (c : Int) (h0 : 0 ≤ c) (h1 : c ≤ 4611686018427387904) : wrap64 ((wrap64 ((wrap64 ((wrap64 ((wrap64 (c + 1)) + 1)) + 1)) + 1)) + 1) = c + 5 := by
  rw [wrap_of (x := c + 1) (by omega) (by omega), wrap_of (x := c + 1 + 1) (by omega) (by omega), wrap_of (x := c + 1 + 1 + 1) (by omega) (by omega), wrap_of (x := c + 1 + 1 + 1 + 1) (by omega) (by omega), wrap_of (x := c + 1 + 1 + 1 + 1 + 1) (by omega) (by omega)]
  omega
theorem markSetS_step (k : Nat) (x : List S59) (c : Int) (i : Nat) (hi : i < x.length) (hx : x.length ≤ 9000000000000) : laws_markSetS.l0 (k + 1) x c (i : Int) = laws_markSetS.l0 k (x.set i (mk59 c)) (wrap64 ((wrap64 ((wrap64 ((wrap64 ((wrap64 (c + 1)) + 1)) + 1)) + 1)) + 1)) ((i + 1 : Nat) : Int) := by
  simp only [laws_markSetS.l0]
  rw [if_pos (by omega), if_pos (by omega), wrap_of (x := (i : Int) + 1) (by omega) (by omega)]
  simp only [Option.bind_some, Int.toNat_natCast]
  repeat rw [rd59_set (by simpa only [List.length_set] using hi)]
  simp only [List.set_set]
  rfl
theorem markSetS_ok (x : List S59) (m : Int) (h0 : 0 ≤ m) (h1 : m ≤ 1000000000000000) (hx : x.length ≤ 9000000000000) (k : Nat) (hk : x.length < k) :
    ∃ y : List S59, y.length = x.length ∧ laws_markSetS.f k x m = some (m + 5 * (x.length : Int), y) := by
  have key : ∀ d i k (y : List S59), i + d = x.length → d < k → y.length = x.length → (∀ j (h : j < y.length), j < i → y[j] = mk59 (m + 5 * (j : Int))) →
      ∃ z : List S59, z.length = x.length ∧ laws_markSetS.l0 k y (m + 5 * (i : Int)) (i : Int) = some (m + 5 * (x.length : Int), z) ∧ ∀ j (h : j < z.length), z[j] = mk59 (m + 5 * (j : Int)) := by
    intro d
    induction d with
    | zero =>
      intro i k y hd hk hl hy
      obtain ⟨k, rfl⟩ : ∃ q, k = q + 1 := ⟨k - 1, by omega⟩
      refine ⟨y, hl, ?_, fun j h => hy j h (by omega)⟩
      simp only [laws_markSetS.l0]
      rw [if_neg (by omega), show i = x.length by omega]
    | succ d ih =>
      intro i k y hd hk hl hy
      obtain ⟨k, rfl⟩ : ∃ q, k = q + 1 := ⟨k - 1, by omega⟩
      rw [markSetS_step k y _ i (by omega) (by omega), mk59_next _ (by omega) (by omega)]
      have e := ih (i + 1) k (y.set i (mk59 (m + 5 * (i : Int)))) (by omega) (by omega) (by rw [List.length_set, hl]) (fun j h hj => by
        by_cases hji : j = i
        · subst hji; simp
        · rw [List.getElem_set_ne (by omega)]
          exact hy j (by rw [List.length_set] at h; exact h) (by omega))
      rw [show m + 5 * ((i + 1 : Nat) : Int) = m + 5 * (i : Int) + 5 by omega] at e
      exact e
  obtain ⟨y, hl, e, hy⟩ := key x.length 0 k x (by omega) hk rfl (fun j _ hj => by omega)
  refine ⟨y, hl, ?_⟩
  unfold laws_markSetS.f
  rw [show m + 5 * ((0 : Nat) : Int) = m by omega] at e
  exact e
theorem copy_ok (l : List S30) (hl : l.length ≤ 1048576) : spec_l3Copy.f l = some l := by
  simp only [spec_l3Copy.f, Option.bind_some, List.nil_append, List.length_nil]
  rw [if_pos (by omega)]
theorem clone_ok (l : List S30) (hl : l.length ≤ 1048576) : impl_Cell_81.f l = some l := by
  simp only [impl_Cell_81.f, Option.bind_some, List.nil_append, List.length_nil]
  rw [if_pos (by omega)]
theorem markCellS_l0_same : ∀ k (x : List S30) (c i : Int) k' (a b : Int × List S30), laws_markCellS.l0 k x c i = some a → laws_markCellS.l0 k' x c i = some b → a = b := by
  intro k
  induction k with
  | zero => intro x c i k' a b h; simp [laws_markCellS.l0] at h
  | succ k ih =>
    intro x c i k' a b h h'
    cases k' with
    | zero => simp [laws_markCellS.l0] at h'
    | succ k' =>
      simp only [laws_markCellS.l0] at h h'
      by_cases h1 : i < (x.length : Int)
      · rw [if_pos h1] at h h'
        by_cases h2 : 0 ≤ i
        · rw [if_pos h2] at h h'
          simp only [Option.bind_some] at h h'
          exact ih _ _ _ _ _ _ h h'
        · rw [if_neg h2] at h
          cases h
      · rw [if_neg h1] at h h'
        exact (Option.some.inj h).symm.trans (Option.some.inj h')
theorem markCellS_same (x : List S30) (c : Int) (k k' : Nat) (a b : Int) (y z : List S30) (h : laws_markCellS.f k x c = some (a, y)) (h' : laws_markCellS.f k' x c = some (b, z)) : y = z :=
  (Prod.mk.inj (markCellS_l0_same k x c 0 k' (a, y) (b, z) h h')).2
theorem head_val (v : Int) (u : Bool) (h : 0 ≤ v ∧ v ≤ 999999) : spec_l1Head.f (wrap64 (v + 1)) u false = some (4 * (v + 1) + (if u = true then 2 else 0)) := by
  have w0 : wrap64 (4 * (v + 1)) = 4 * (v + 1) := wrap_of (by omega) (by omega)
  have w2 : wrap64 (4 * (v + 1) + 2) = 4 * (v + 1) + 2 := wrap_of (by omega) (by omega)
  rw [wrap_of (x := v + 1) (by omega) (by omega)]
  cases u <;> simp [spec_l1Head.f, w0, w2]
theorem pack_eq (a : Int) (u l : Bool) : impl_pack.f a u l = spec_l1Head.f a u l := rfl
/-- The cell that a set leaves. -/
def cellOf (x : S59) : S30 := ⟨4 * (x.f4 + 1) + (if x.f3 = true then 2 else 0), if x.f3 = true then x.f2 else 0⟩
theorem cellOf_head {x : S59} (h : 0 ≤ x.f4 ∧ x.f4 ≤ 999999) : 0 ≤ (cellOf x).f0 ∧ (cellOf x).f0 ≤ 4000003 := by
  show 0 ≤ 4 * (x.f4 + 1) + (if x.f3 = true then 2 else 0) ∧ 4 * (x.f4 + 1) + (if x.f3 = true then 2 else 0) ≤ 4000003
  cases x.f3 <;> simp <;> omega
theorem in_from (s : List S59) (hs : ∀ j : Nat, j < s.length → okS (rd_T59 s (j : Int)) = true) (hl : s.length ≤ 1048576) : ∀ d (i : Nat) (x : List S30), i + d = s.length → inv6 x → ∃ r, r.length = 6 ∧ ∀ k, d < k → spec_l3Install.l0 k x s (i : Int) = some r ∧ impl_install.l0 k x s (s.length : Int) (i : Int) = some r := by
  intro d
  induction d with
  | zero =>
    intro i x hd hx
    refine ⟨x, hx.1, fun k hk => ?_⟩
    obtain ⟨k, rfl⟩ : ∃ q, k = q + 1 := ⟨k - 1, by omega⟩
    simp only [spec_l3Install.l0, impl_install.l0, if_neg (show ¬ ((i : Int) < (s.length : Int)) by omega)]
    (try (refine ⟨?_, ?_⟩ <;> first | trivial | rfl))
  | succ d ih =>
    intro i x hd hx
    have ho := okS_slot (hs i (by omega))
    have hv := okS_ver (hs i (by omega))
    have hh := hx.2 (rd_T59 s (i : Int)).f1
    have h6 := hx.1
    have ec : ((i + 1 : Nat) : Int) = (i : Int) + 1 := by omega
    have eu : ∀ k, spec_l3Install.l0 (k + 1) x s (i : Int) = (if (rd_T30 x (rd_T59 s (i : Int)).f1).f0 / 4 > (rd_T59 s (i : Int)).f4 then spec_l3Install.l0 k x s ((i : Int) + 1) else spec_l3Install.l0 k (x.set (rd_T59 s (i : Int)).f1.toNat (cellOf (rd_T59 s (i : Int)))) s ((i : Int) + 1)) ∧ impl_install.l0 (k + 1) x s (s.length : Int) (i : Int) = (if (rd_T30 x (rd_T59 s (i : Int)).f1).f0 / 4 > (rd_T59 s (i : Int)).f4 then impl_install.l0 k x s (s.length : Int) ((i : Int) + 1) else impl_install.l0 k (x.set (rd_T59 s (i : Int)).f1.toNat (cellOf (rd_T59 s (i : Int)))) s (s.length : Int) ((i : Int) + 1)) := fun k => by
      simp only [spec_l3Install.l0, impl_install.l0, if_pos (show (i : Int) < (s.length : Int) by omega), if_pos (show (0 : Int) ≤ (i : Int) by omega), if_pos ho.1, if_pos (show (rd_T59 s (i : Int)).f1 < (x.length : Int) by omega), spec_ver _ hh, pack_eq, head_val _ _ hv, Option.bind_some, quarter _ hh.1 hh.2, wrap_of (x := (i : Int) + 1) (by omega) (by omega), cellOf]
      by_cases h1 : (rd_T30 x (rd_T59 s (i : Int)).f1).f0 / 4 > (rd_T59 s (i : Int)).f4 <;> by_cases h2 : (rd_T59 s (i : Int)).f3 = true <;> simp [h1, h2]
    by_cases h1 : (rd_T30 x (rd_T59 s (i : Int)).f1).f0 / 4 > (rd_T59 s (i : Int)).f4
    · simp only [if_pos h1] at eu
      obtain ⟨r, hr6, hr⟩ := ih (i + 1) x (by omega) hx
      rw [ec] at hr
      refine ⟨r, hr6, fun k hk => ?_⟩
      obtain ⟨k, rfl⟩ : ∃ q, k = q + 1 := ⟨k - 1, by omega⟩
      rw [(eu k).1, (eu k).2]
      exact hr k (by omega)
    · simp only [if_neg h1] at eu
      obtain ⟨r, hr6, hr⟩ := ih (i + 1) (x.set (rd_T59 s (i : Int)).f1.toNat (cellOf (rd_T59 s (i : Int)))) (by omega) (inv6_set hx (by omega) (cellOf_head hv))
      rw [ec] at hr
      refine ⟨r, hr6, fun k hk => ?_⟩
      obtain ⟨k, rfl⟩ : ∃ q, k = q + 1 := ⟨k - 1, by omega⟩
      rw [(eu k).1, (eu k).2]
      exact hr k (by omega)
theorem install_ok (l : List S30) (s : List S59) (hl : l.length ≤ 1048576) (hs : s.length ≤ 1048576) : ∃ r b, r.length ≤ 6 ∧ ∀ k, 10000000 < k → spec_Install.f (k + 1) l s = some (r, b) ∧ impl_Install.f (k + 1) l s = some (r, b) := by
  have ea : ∀ k, 10000000 < k → spec_Install.f (k + 1) l s = (if okCs l = true then (if okSs s 0 s.length = true then (spec_l3Install.l0 k l s 0).bind fun z => some (z, true) else some ([], false)) else some ([], false)) ∧ impl_Install.f (k + 1) l s = (if okCs l = true then (if okSs s 0 s.length = true then (impl_install.l0 k l s (s.length : Int) 0).bind fun z => some (z, true) else some ([], false)) else some ([], false)) := fun k hk => by
    simp only [spec_Install.f, impl_Install.f, spec_cells l hl (k + 1) (by omega), impl_cells, spec_sets s hs (k + 1) (by omega), impl_sets s hs (k + 1) (by omega), Option.bind_some, spec_Install.j0, impl_Install.j0, copy_ok l hl, clone_ok l hl, spec_l3Install.f, impl_install.f]
    by_cases h : okCs l = true <;> by_cases h2 : okSs s 0 s.length = true <;> simp [h, h2]
  by_cases h : okCs l = true
  · by_cases h2 : okSs s 0 s.length = true
    · obtain ⟨r, h6, hr⟩ := in_from s (fun j hj => okSs_at s s.length 0 h2 j (by omega) (by omega)) hs s.length 0 l (by omega) (inv6_of h)
      rw [show ((0 : Nat) : Int) = 0 from rfl] at hr
      refine ⟨r, true, by omega, fun k hk => ?_⟩
      obtain ⟨a1, a2⟩ := hr k (by omega)
      rw [(ea k hk).1, (ea k hk).2, if_pos h, if_pos h2, if_pos h, if_pos h2, a1, a2]
      exact ⟨rfl, rfl⟩
    · refine ⟨[], false, by simp, fun k hk => ?_⟩
      rw [(ea k hk).1, (ea k hk).2]
      simp [h, h2]
  · refine ⟨[], false, by simp, fun k hk => ?_⟩
    rw [(ea k hk).1, (ea k hk).2]
    simp [h]
theorem FnExactInstall : SFnExactInstall.Pure := by
  intro l0 l1 hl h0 hl1 h1
  obtain ⟨K, hK⟩ : ∃ K, 20000000 < K := ⟨_, Nat.lt_succ_self _⟩
  refine ⟨K + 1 + 1 + 1 + 1, ?_⟩
  unfold laws_FnExactInstall.f
  rw [szCellS_ok l0 1048576 (by omega) (by omega) hl]
  simp only [Option.bind_some]
  by_cases h : (1048576 : Int) < (l0.length : Int)
  · rw [if_pos h, if_pos (by omega)]
  rw [if_neg h, if_neg (by omega), szSetS_ok l1 _ (by omega) (by omega) hl1]
  simp only [Option.bind_some]
  by_cases h' : 1048576 - (l0.length : Int) < (l1.length : Int)
  · rw [if_pos h', if_pos (by omega)]
  rw [if_neg h', if_neg (by omega)]
  have hm : (l0.map toC).length = l0.length := List.length_map ..
  have hm1 : (l1.map toS).length = l1.length := List.length_map ..
  obtain ⟨r, b, hr, hx⟩ := install_ok (l0.map toC) (l1.map toS) (by omega) (by omega)
  obtain ⟨e1, e2⟩ := hx (K + 1 + 1 + 1) (by omega)
  obtain ⟨_, e2'⟩ := hx (K + 1) (by omega)
  obtain ⟨y1, hy1, m1, _⟩ := markCellS_ok (l0.map toC) 1 (by omega) (by omega) (by omega) (K + 1 + 1 + 1) (by omega)
  obtain ⟨y2, hy2, m2⟩ := markSetS_ok (l1.map toS) (1 + 2 * ((l0.map toC).length : Int)) (by omega) (by omega) (by omega) (K + 1 + 1 + 1) (by omega)
  obtain ⟨y3, hy3, m3, n3⟩ := markCellS_ok r 1 (by omega) (by omega) (by omega) (K + 1 + 1) (by omega)
  have n4 : laws_heldCellS.f (K + 1) y3 1 = some (1 + 2 * (r.length : Int)) := by
    obtain ⟨y4, hy4, m4, n4⟩ := markCellS_ok r 1 (by omega) (by omega) (by omega) (K + 1) (by omega)
    have e : y4 = y3 := markCellS_same r 1 _ _ _ _ _ _ m4 m3
    rw [← e]; exact n4
  simp only [toCellS_ok l0 (by omega) (K + 1 + 1 + 1 + 1) (by omega), toSetS_ok l1 (by omega) (K + 1 + 1 + 1 + 1) (by omega), toCellS_ok l0 (by omega) (K + 1 + 1 + 1) (by omega), toSetS_ok l1 (by omega) (K + 1 + 1 + 1) (by omega), toCellS_ok l0 (by omega) (K + 1 + 1) (by omega), toSetS_ok l1 (by omega) (K + 1 + 1) (by omega), Option.bind_some, e1, e2, e2', eqCellS_ok r (by omega) (K + 1 + 1 + 1 + 1) (by omega), eqCellS_ok r (by omega) (K + 1 + 1 + 1) (by omega), eqCellS_ok r (by omega) (K + 1 + 1) (by omega), eqCellS_ok (l0.map toC) (by omega) (K + 1 + 1 + 1) (by omega), eqSetS_ok (l1.map toS) (by omega) (K + 1 + 1 + 1) (by omega), m1, m2, if_neg (show ¬ (1 + 2 * ((l0.map toC).length : Int) + 5 * ((l1.map toS).length : Int) < 0) by omega), laws_FnExactInstall.j0, laws_FnExactInstall.j1, laws_FnExactInstall.j2, m3, n3, n4, if_neg (show ¬ (1 + 2 * (r.length : Int) < 0) by omega), bne_self_eq_false, Bool.false_eq_true, if_false, if_true]
end Go.Proofs.Ytgdfbjmjgegicaa.Pure
