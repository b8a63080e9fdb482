/- Proved: the law FnExactFreeSlot answers true at every argument: the program answers as the reference, wherever the law's own guards let the argument in. Conditions: none beyond the given row's. -/
import Derived.Test.YtgdfbjmjgegicaaSFnExactFreeSlot
import Derived.Test.YtgdfbjmjgegicaaGen
namespace Go.Proofs.Ytgdfbjmjgegicaa.Pure
open Go.RowKit Go.Proofs.Ytgdfbjmjgegicaa.XFr Go.Proofs.Ytgdfbjmjgegicaa.Opened Go.Proofs.YtgdfbjmjgegicaaW.PrintWords Go.Proofs.YtgdfbjmjgegicaaW.PrintLast Go.Proofs.Ytgdfbjmjgegicaa.SFnExactFreeSlot Go.Proofs.Ytgdfbjmjgegicaa.Gen
set_option linter.unusedSimpArgs false
set_option linter.unusedVariables false
open Go.Proofs.Ytgdfbjmjgegicaa.Aid
theorem in_ (a b c : Int) : spec_l1In.f a b c = some (decide (b ≤ a ∧ a ≤ c)) := by
  unfold spec_l1In.f
  by_cases h : a ≥ b <;> simp [h]
theorem within_ (a b c : Int) : impl_within.f a b c = some (decide (b ≤ a ∧ a ≤ c)) := by
  unfold impl_within.f
  by_cases h : a ≥ b <;> simp [h]
theorem rd30_get {l : List S30} {i : Nat} (h : i < l.length) : rd_T30 l (i : Int) = l[i] := by
  unfold rd_T30
  rw [Int.toNat_natCast, List.getD_eq_getElem?_getD, List.getElem?_eq_getElem h]
  rfl
theorem rd30_set {l : List S30} {i : Nat} (h : i < l.length) (v : S30) : rd_T30 (l.set i v) (i : Int) = v := by
  rw [rd30_get (by rw [List.length_set]; exact h)]
  simp
theorem rd87_get {l : List S87} {i : Nat} (h : i < l.length) : rd_T87 l (i : Int) = l[i] := by
  unfold rd_T87
  rw [Int.toNat_natCast, List.getD_eq_getElem?_getD, List.getElem?_eq_getElem h]
  rfl
theorem rd87_set {l : List S87} {i : Nat} (h : i < l.length) (v : S87) : rd_T87 (l.set i v) (i : Int) = v := by
  rw [rd87_get (by rw [List.length_set]; exact h)]
  simp
/-- A cell is right. -/
def okC (c : S30) : Bool := decide (0 ≤ c.f0 ∧ c.f0 ≤ 4000003) && (decide (-1000000000 ≤ c.f1 ∧ c.f1 ≤ 1000000000) && (decide (c.f0 / 2 % 2 = 1) || decide (c.f1 = 0)))
theorem spec_used (a : Int) : spec_Used.f a = some (decide (0 ≤ a ∧ a ≤ 4000003) && decide (a / 2 % 2 = 1)) := by
  simp only [spec_Used.f, spec_HeadOk.f, in_, Option.bind_some]
  by_cases h : 0 ≤ a ∧ a ≤ 4000003
  · rw [if_pos (by simpa using h), Int.tdiv_eq_ediv_of_nonneg h.1, wrap_of (by omega) (by omega), Int.tmod_eq_emod_of_nonneg (by omega)]
    simp [h]
    rfl
  · rw [if_neg (by simpa using h)]
    simp [h]
theorem spec_cells_from (l : List S30) (hl : l.length ≤ 1048576) : ∀ d i k, i + d = l.length → d < k → spec_CellsOk.l0 k l (i : Int) = some ((l.drop i).all okC) := by
  intro d
  induction d with
  | zero =>
    intro i k hd hk
    obtain ⟨k, rfl⟩ : ∃ m, k = m + 1 := ⟨k - 1, by omega⟩
    simp only [spec_CellsOk.l0]
    rw [if_neg (by omega), List.drop_of_length_le (by omega)]
    rfl
  | succ d ih =>
    intro i k hd hk
    obtain ⟨k, rfl⟩ : ∃ m, k = m + 1 := ⟨k - 1, by omega⟩
    simp only [spec_CellsOk.l0]
    rw [if_pos (by omega), if_pos (by omega), rd30_get (show i < l.length by omega), wrap_of (by omega) (by omega), List.drop_eq_getElem_cons (show i < l.length by omega)]
    have e := ih (i + 1) k (by omega) (by omega)
    rw [show ((i + 1 : Nat) : Int) = (i : Int) + 1 from by omega] at e
    rw [e]
    simp only [spec_HeadOk.f, spec_l1Value.f, in_, spec_used, Option.bind_some, List.all_cons, okC]
    by_cases h1 : 0 ≤ l[i].f0 ∧ l[i].f0 ≤ 4000003 <;> by_cases h2 : -1000000000 ≤ l[i].f1 ∧ l[i].f1 ≤ 1000000000 <;> by_cases h3 : l[i].f0 / 2 % 2 = 1 <;> by_cases h4 : l[i].f1 = 0 <;> simp [h1, h2, h3, h4]
def okCs (l : List S30) : Bool := decide (l.length = 6) && l.all okC
theorem spec_cells (l : List S30) (hl : l.length ≤ 1048576) (k : Nat) (hk : l.length < k) : spec_CellsOk.f k l = some (okCs l) := by
  unfold spec_CellsOk.f okCs
  by_cases h : l.length = 6
  · rw [if_pos (by omega)]
    have e := spec_cells_from l hl l.length 0 k (by omega) hk
    rw [show ((0 : Nat) : Int) = 0 from rfl] at e
    rw [e]
    simp [h]
  · rw [if_neg (by omega)]
    simp [h]
theorem impl_cell (x : S30) : impl_areCells_1.f x.f0 x.f1 = some (!okC x) := by
  simp only [impl_areCells_1.f, impl_isHead.f, impl_isValue.f, within_, Option.bind_some, okC]
  by_cases h1 : 0 ≤ x.f0 ∧ x.f0 ≤ 4000003
  · by_cases h2 : -1000000000 ≤ x.f1 ∧ x.f1 ≤ 1000000000
    · rw [if_pos (by simpa using h1), if_pos (by simpa using h2), and2]
      by_cases h3 : x.f0 / 2 % 2 = 1
      · rw [if_neg (by omega)]
        simp [h1, h2, h3]
      · rw [if_pos (by omega)]
        by_cases h4 : x.f1 = 0 <;> simp [h1, h2, h3, h4]
    · rw [if_pos (by simpa using h1), if_neg (by simpa using h2)]
      simp [h1, h2]
  · rw [if_neg (by simpa using h1)]
    simp [h1]
theorem impl_cells (l : List S30) : impl_areCells.f l = some (okCs l) := by
  unfold impl_areCells.f okCs
  by_cases h : l.length = 6
  · rw [if_pos (by omega)]
    obtain ⟨r, e, hr⟩ := idx_total (fun x : S30 => impl_areCells_1.f x.f0 x.f1) (fun x => !okC x) l (fun x _ => impl_cell x) 0
    simp only [impl_Cell_105.f, e, Option.bind_some, hr]
    rw [← List.not_all_eq_any_not]
    simp [h]
  · rw [if_neg (by omega)]
    simp [h]
def toC (p : S87) : S30 := ⟨p.f0, p.f1⟩
theorem toCellS_ok (l : List S87) (hl : l.length ≤ 1048576) (k : Nat) (hk : l.length < k) : laws_toCellS.f k l = some (l.map toC) := by
  unfold laws_toCellS.f
  rw [if_pos (by omega), if_pos (by omega)]
  exact loop_to (fun k (s : List S30 × Int) => laws_toCellS.l0 k l s.1 s.2) (fun i s => s.2 = (i : Int) ∧ s.1.length = (l.map toC).length ∧ s.1.take i = (l.map toC).take i) l.length 0 (l.map toC)
    (fun k i s hk hi hP => ⟨(s.1.set s.2.toNat (toC l[i]), wrap64 (s.2 + 1)), by
      obtain ⟨h1, h2, h3⟩ := hP
      refine ⟨by show wrap64 (s.2 + 1) = _; rw [h1, wrap_of (by omega) (by omega)]; omega, by show (s.1.set _ _).length = _; rw [List.length_set, h2], ?_⟩
      show (s.1.set s.2.toNat (toC l[i])).take (i + 1) = _
      rw [h1, Int.toNat_natCast]
      exact take_next h2 (by simpa using hi) h3 (by simp), by
      obtain ⟨h1, h2, h3⟩ := hP
      rw [List.length_map] at h2
      show laws_toCellS.l0 (k + 1) l s.1 s.2 = _
      simp only [laws_toCellS.l0, laws_toCell.f]
      rw [if_pos (by omega), if_pos (by omega), h1, rd87_get hi]
      simp only [Option.bind_some]
      rw [if_pos (by omega)]
      rfl⟩)
    (fun k s hk hP => by
      obtain ⟨h1, h2, h3⟩ := hP
      show laws_toCellS.l0 (k + 1) l s.1 s.2 = _
      simp only [laws_toCellS.l0]
      rw [if_neg (by omega)]
      rw [List.take_of_length_le (by rw [h2, List.length_map]; omega), List.take_of_length_le (by simp)] at h3
      rw [h3]) 0 k (List.replicate ((l.length : Int)).toNat z30, 0) (by omega) (by omega) ⟨rfl, by simp, by simp⟩
theorem eqCellS_ok (l : List S30) (hl : l.length ≤ 9000000000000) (k : Nat) (hk : l.length < k) : laws_eqCellS.f k l l = some true := by
  unfold laws_eqCellS.f
  rw [if_pos rfl]
  exact loop_to (fun k (s : Int) => laws_eqCellS.l0 k l l s) (fun i s => s = (i : Int)) l.length 0 true
    (fun k i s hk hi hP => ⟨wrap64 (s + 1), by rw [hP, wrap_of (by omega) (by omega)]; omega, by
      show laws_eqCellS.l0 (k + 1) l l s = _
      simp only [laws_eqCellS.l0]
      rw [if_pos (by omega), if_pos (by omega), if_pos (by omega)]
      simp [laws_eqCell.f]⟩)
    (fun k s _ hP => by
      show laws_eqCellS.l0 (k + 1) l l s = _
      simp only [laws_eqCellS.l0]
      rw [if_neg (by omega)]) 0 k 0 (by omega) (by omega) rfl
theorem szCellS_ok (l : List S87) (a : Int) (ha : 0 ≤ a) (ha' : a ≤ 1048576) (hl : l.length ≤ maxLen) : laws_szCellS.f l a = some (if a < (l.length : Int) then -1 else a - (l.length : Int)) := by
  unfold maxLen at hl
  unfold laws_szCellS.f
  rw [wrap_of (by omega) (by omega)]
  by_cases h : a < (l.length : Int)
  · rw [if_pos (by omega), if_pos h]
  · rw [if_neg (by omega), if_neg h]
theorem spec_locked (a : Int) : spec_Locked.f a = some (decide (0 ≤ a ∧ a ≤ 4000003) && decide (a % 2 = 1)) := by
  simp only [spec_Locked.f, spec_HeadOk.f, in_, Option.bind_some]
  by_cases h : 0 ≤ a ∧ a ≤ 4000003
  · rw [if_pos (by simpa using h), Int.tmod_eq_emod_of_nonneg h.1]
    simp [h]
    rfl
  · rw [if_neg (by simpa using h)]
    simp [h]
theorem okCs_head {l : List S30} (h : okCs l = true) {i : Nat} (hi : i < l.length) : 0 ≤ l[i].f0 ∧ l[i].f0 ≤ 4000003 := by
  unfold okCs at h
  rw [Bool.and_eq_true, List.all_eq_true] at h
  have e := h.2 l[i] (List.getElem_mem hi)
  unfold okC at e
  rw [Bool.and_eq_true] at e
  exact of_decide_eq_true e.1
theorem okCs_len {l : List S30} (h : okCs l = true) : l.length = 6 := by
  unfold okCs at h
  rw [Bool.and_eq_true] at h
  exact of_decide_eq_true h.1
theorem has_from (l : List Int) (n : Int) (hl : l.length ≤ maxLen) : ∀ d i k, i + d = l.length → d < k → spec_l3Has.l0 k l n (i : Int) = some (decide (n ∈ l.drop i)) := by
  unfold maxLen at hl
  intro d
  induction d with
  | zero =>
    intro i k hd hk
    obtain ⟨k, rfl⟩ : ∃ m, k = m + 1 := ⟨k - 1, by omega⟩
    simp only [spec_l3Has.l0]
    rw [if_neg (by omega), List.drop_of_length_le (by omega)]
    simp
  | succ d ih =>
    intro i k hd hk
    obtain ⟨k, rfl⟩ : ∃ m, k = m + 1 := ⟨k - 1, by omega⟩
    simp only [spec_l3Has.l0]
    rw [if_pos (by omega), if_pos (by omega), rd_get (show i < l.length by omega), wrap_of (by omega) (by omega), List.drop_eq_getElem_cons (show i < l.length by omega)]
    by_cases h : l[i] = n
    · rw [if_pos h, decide_eq_true (show n ∈ l[i] :: l.drop (i + 1) by rw [h]; exact List.mem_cons_self)]
    · rw [if_neg h]
      have := ih (i + 1) k (by omega) (by omega)
      rw [show ((i + 1 : Nat) : Int) = (i : Int) + 1 from by omega] at this
      rw [this]
      have h' : ¬ n = l[i] := fun e => h e.symm
      simp only [List.mem_cons, h', false_or]
theorem has_ok (l : List Int) (n : Int) (hl : l.length ≤ maxLen) (k : Nat) (hk : l.length < k) : spec_l3Has.f k l n = some (decide (n ∈ l)) := by
  have := has_from l n hl l.length 0 k (by omega) hk
  simpa [spec_l3Has.f] using this
theorem index_from (l : List Int) (n : Int) (hl : l.length ≤ maxLen) : ∀ d i k, i + d = l.length → d < k → ∃ r, slices_Index_int64_int64.l0 k l n (l.length : Int) (i : Int) = some r ∧ (0 ≤ r ↔ n ∈ l.drop i) := by
  unfold maxLen at hl
  intro d
  induction d with
  | zero =>
    intro i k hd hk
    obtain ⟨k, rfl⟩ : ∃ m, k = m + 1 := ⟨k - 1, by omega⟩
    simp only [slices_Index_int64_int64.l0]
    rw [if_neg (by omega), List.drop_of_length_le (by omega)]
    exact ⟨-1, rfl, by simp⟩
  | succ d ih =>
    intro i k hd hk
    obtain ⟨k, rfl⟩ : ∃ m, k = m + 1 := ⟨k - 1, by omega⟩
    simp only [slices_Index_int64_int64.l0]
    rw [if_pos (by omega), if_pos (by omega), if_pos (by omega), rd_get (show i < l.length by omega), wrap_of (by omega) (by omega), List.drop_eq_getElem_cons (show i < l.length by omega)]
    by_cases h : n = l[i]
    · rw [if_pos h]
      exact ⟨i, rfl, ⟨fun _ => by rw [h]; exact List.mem_cons_self, fun _ => by omega⟩⟩
    · rw [if_neg h]
      have := ih (i + 1) k (by omega) (by omega)
      rw [show ((i + 1 : Nat) : Int) = (i : Int) + 1 from by omega] at this
      obtain ⟨r, e, hr⟩ := this
      exact ⟨r, e, by simp only [hr, List.mem_cons, h, false_or]⟩
theorem contains_ok (l : List Int) (n : Int) (hl : l.length ≤ maxLen) (k : Nat) (hk : l.length < k) : slices_Contains_int64_int64.f k l n = some (decide (n ∈ l)) := by
  obtain ⟨r, e, hr⟩ := index_from l n hl l.length 0 k (by omega) hk
  simp only [slices_Contains_int64_int64.f, slices_Index_int64_int64.f]
  rw [show ((0 : Nat) : Int) = 0 from rfl] at e
  rw [e]
  simp only [List.drop_zero] at hr
  simp [hr]
theorem eqInts_ok (l : List Int) (hl : l.length ≤ maxLen) (k : Nat) (hk : l.length < k) : laws_eqInt64S.f k l l = some true := by
  unfold maxLen at hl
  unfold laws_eqInt64S.f
  rw [if_pos rfl]
  exact loop_to (fun k (s : Int) => laws_eqInt64S.l0 k l l s) (fun i s => s = (i : Int)) l.length 0 true
    (fun k i s _ hi hP => ⟨wrap64 (s + 1), by rw [hP, wrap_of (by omega) (by omega)]; omega, by
      show laws_eqInt64S.l0 (k + 1) l l s = _
      simp only [laws_eqInt64S.l0]
      rw [if_pos (by omega), if_pos (by omega), if_pos (by omega)]
      first | rw [if_pos rfl] | rw [if_pos trivial]⟩)
    (fun k s _ hP => by
      show laws_eqInt64S.l0 (k + 1) l l s = _
      simp only [laws_eqInt64S.l0]
      rw [if_neg (by omega)]) 0 k 0 (by omega) (by omega) rfl
theorem toInts_ok (l : List Int) (hl : l.length ≤ 35184372088832) (k : Nat) (hk : l.length < k) : laws_toInt64S.f k l = some l := by
  unfold laws_toInt64S.f
  rw [if_pos (by omega), if_pos (by omega)]
  exact loop_to (fun k (s : List Int × Int) => laws_toInt64S.l0 k l s.1 s.2) (fun i s => s.2 = (i : Int) ∧ s.1.length = l.length ∧ s.1.take i = l.take i) l.length 0 l
    (fun k i s _ hi hP => ⟨(s.1.set s.2.toNat (rd l s.2), wrap64 (s.2 + 1)), by
      obtain ⟨h1, h2, h3⟩ := hP
      refine ⟨by show wrap64 (s.2 + 1) = _; rw [h1, wrap_of (by omega) (by omega)]; omega, by show (s.1.set _ _).length = _; rw [List.length_set, h2], ?_⟩
      show (s.1.set s.2.toNat (rd l s.2)).take (i + 1) = _
      rw [h1, Int.toNat_natCast]
      exact take_next h2 hi h3 (rd_get hi), by
      obtain ⟨h1, h2, h3⟩ := hP
      show laws_toInt64S.l0 (k + 1) l s.1 s.2 = _
      simp only [laws_toInt64S.l0]
      rw [if_pos (by omega), if_pos (by omega), if_pos (by omega)]⟩)
    (fun k s _ hP => by
      obtain ⟨h1, h2, h3⟩ := hP
      show laws_toInt64S.l0 (k + 1) l s.1 s.2 = _
      simp only [laws_toInt64S.l0]
      rw [if_neg (by omega)]
      rw [List.take_of_length_le (by omega), List.take_of_length_le (by omega)] at h3
      rw [h3]) 0 k (List.replicate ((l.length : Int)).toNat 0, 0) (by omega) (by omega) ⟨rfl, by simp, by simp⟩
theorem slot_from (l : List S30) (h : okCs l = true) (m : List Int) (hm : m.length ≤ maxLen) (k0 : Nat) (hk0 : m.length < k0) : ∀ d i k : Nat, i + d = 6 → d + k0 < k → ∃ r, spec_FreeSlot.l0 k l m (i : Int) = some r ∧ impl_freeSlot.l0 k l m (i : Int) = some r := by
  have h6 := okCs_len h
  intro d
  induction d with
  | zero =>
    intro i k hd hk
    obtain ⟨k, rfl⟩ : ∃ q, k = q + 1 := ⟨k - 1, by omega⟩
    simp only [spec_FreeSlot.l0, impl_freeSlot.l0]
    rw [if_neg (by omega), if_neg (by omega)]
    exact ⟨_, rfl, rfl⟩
  | succ d ih =>
    intro i k hd hk
    obtain ⟨k, rfl⟩ : ∃ q, k = q + 1 := ⟨k - 1, by omega⟩
    have hi : i < l.length := by omega
    have hh := okCs_head h hi
    obtain ⟨r, e1, e2⟩ := ih (i + 1) k (by omega) (by omega)
    rw [show ((i + 1 : Nat) : Int) = (i : Int) + 1 from by omega] at e1 e2
    simp only [spec_FreeSlot.l0, impl_freeSlot.l0, spec_used, spec_locked, has_ok m _ hm k (by omega), contains_ok m _ hm k (by omega), Option.bind_some, and3]
    simp only [if_pos (show (i : Int) < 6 by omega), if_pos (show (0 : Int) ≤ (i : Int) by omega), if_pos (show (i : Int) < (l.length : Int) by omega), wrap_of (x := (i : Int) + 1) (by omega) (by omega), rd30_get hi, e1, e2]
    by_cases h4 : l[i].f0 % 4 = 0
    · rw [if_pos h4]
      have hu : ¬ (l[i].f0 / 2 % 2 = 1) := by omega
      have hl : ¬ (l[i].f0 % 2 = 1) := by omega
      by_cases h5 : (i : Int) ∈ m <;> simp [hh, hu, hl, h5]
    · rw [if_neg h4]
      by_cases hu : l[i].f0 / 2 % 2 = 1
      · simp [hh, hu]
      · have hl : l[i].f0 % 2 = 1 := by omega
        simp [hh, hu, hl]
theorem slot_ok (l : List S30) (m : List Int) (hl : l.length ≤ 1048576) (hm : m.length ≤ maxLen) (k : Nat) (hk : l.length < k) (hk2 : m.length + 10 < k) : ∃ r, spec_FreeSlot.f k l m = some r ∧ impl_FreeSlot.f k l m = some r := by
  simp only [spec_FreeSlot.f, impl_FreeSlot.f, impl_freeSlot.f, spec_cells l hl k hk, impl_cells, Option.bind_some]
  by_cases h : okCs l = true
  · rw [if_pos h, if_pos h]
    obtain ⟨r, e1, e2⟩ := slot_from l h m hm (m.length + 1) (by omega) 6 0 k (by omega) (by omega)
    rw [show ((0 : Nat) : Int) = 0 from rfl] at e1 e2
    rw [e1, e2]
    exact ⟨_, rfl, rfl⟩
  · rw [if_neg h, if_neg h]
    exact ⟨_, rfl, rfl⟩
theorem FnExactFreeSlot : SFnExactFreeSlot.Pure := by
  intro l0 l1 hl h0 hl1 h1
  obtain ⟨K, hK⟩ : ∃ K, 2000000 < K := ⟨_, Nat.lt_succ_self _⟩
  refine ⟨K, ?_⟩
  unfold laws_FnExactFreeSlot.f
  by_cases hb : (l1.length : Int) > 1048576
  · rw [if_pos hb]
  rw [if_neg hb, szCellS_ok l0 1048576 (by omega) (by omega) hl]
  simp only [Option.bind_some]
  by_cases h : (1048576 : Int) < (l0.length : Int)
  · rw [if_pos h, if_pos (by omega)]
  rw [if_neg h, if_neg (by omega)]
  have hm : (l0.map toC).length = l0.length := List.length_map ..
  obtain ⟨r, e1, e2⟩ := slot_ok (l0.map toC) l1 (by omega) hl1 K (by omega) (by omega)
  simp only [toCellS_ok l0 (by omega) K (by omega), toInts_ok l1 (by omega) K (by omega), Option.bind_some, e1, e2, eqCellS_ok (l0.map toC) (by omega) K (by omega), eqInts_ok l1 hl1 K (by omega)]
  simp
end Go.Proofs.Ytgdfbjmjgegicaa.Pure
