/- Proved: the law FnFreeSlots answers true at every argument: the program answers as the reference, wherever the law's own guards let the argument in. Conditions: none beyond the given row's. -/
import Derived.Test.YtgdfbjmjgegicaaSFnFreeSlots
import Derived.Test.YtgdfbjmjgegicaaGen
namespace Go.Proofs.Ytgdfbjmjgegicaa.Pure
open Go.RowKit Go.Proofs.Ytgdfbjmjgegicaa.XFs Go.Proofs.Ytgdfbjmjgegicaa.Opened Go.Proofs.YtgdfbjmjgegicaaW.PrintWords Go.Proofs.YtgdfbjmjgegicaaW.PrintLast Go.Proofs.Ytgdfbjmjgegicaa.SFnFreeSlots Go.Proofs.Ytgdfbjmjgegicaa.Gen
set_option linter.unusedSimpArgs false
set_option linter.unusedVariables false
open Go.Proofs.Ytgdfbjmjgegicaa.Aid
theorem in_ (a b c : Int) : spec_l1In.f a b c = some (decide (b ≤ a ∧ a ≤ c)) := by
  unfold spec_l1In.f
  by_cases h : a ≥ b <;> simp [h]
theorem within_ (a b c : Int) : impl_within.f a b c = some (decide (b ≤ a ∧ a ≤ c)) := by
  unfold impl_within.f
  by_cases h : a ≥ b <;> simp [h]
theorem rd30_get {l : List S30} {i : Nat} (h : i < l.length) : rd_T30 l (i : Int) = l[i] := by
  unfold rd_T30
  rw [Int.toNat_natCast, List.getD_eq_getElem?_getD, List.getElem?_eq_getElem h]
  rfl
theorem rd30_set {l : List S30} {i : Nat} (h : i < l.length) (v : S30) : rd_T30 (l.set i v) (i : Int) = v := by
  rw [rd30_get (by rw [List.length_set]; exact h)]
  simp
/-- A cell is right. -/
def okC (c : S30) : Bool := decide (0 ≤ c.f0 ∧ c.f0 ≤ 4000003) && (decide (-1000000000 ≤ c.f1 ∧ c.f1 ≤ 1000000000) && (decide (c.f0 / 2 % 2 = 1) || decide (c.f1 = 0)))
theorem spec_used (a : Int) : spec_Used.f a = some (decide (0 ≤ a ∧ a ≤ 4000003) && decide (a / 2 % 2 = 1)) := by
  simp only [spec_Used.f, spec_HeadOk.f, in_, Option.bind_some]
  by_cases h : 0 ≤ a ∧ a ≤ 4000003
  · rw [if_pos (by simpa using h), Int.tdiv_eq_ediv_of_nonneg h.1, wrap_of (by omega) (by omega), Int.tmod_eq_emod_of_nonneg (by omega)]
    simp [h]
    rfl
  · rw [if_neg (by simpa using h)]
    simp [h]
theorem spec_cells_from (l : List S30) (hl : l.length ≤ 1048576) : ∀ d i k, i + d = l.length → d < k → spec_CellsOk.l0 k l (i : Int) = some ((l.drop i).all okC) := by
  intro d
  induction d with
  | zero =>
    intro i k hd hk
    obtain ⟨k, rfl⟩ : ∃ m, k = m + 1 := ⟨k - 1, by omega⟩
    simp only [spec_CellsOk.l0]
    rw [if_neg (by omega), List.drop_of_length_le (by omega)]
    rfl
  | succ d ih =>
    intro i k hd hk
    obtain ⟨k, rfl⟩ : ∃ m, k = m + 1 := ⟨k - 1, by omega⟩
    simp only [spec_CellsOk.l0]
    rw [if_pos (by omega), if_pos (by omega), rd30_get (show i < l.length by omega), wrap_of (by omega) (by omega), List.drop_eq_getElem_cons (show i < l.length by omega)]
    have e := ih (i + 1) k (by omega) (by omega)
    rw [show ((i + 1 : Nat) : Int) = (i : Int) + 1 from by omega] at e
    rw [e]
    simp only [spec_HeadOk.f, spec_l1Value.f, in_, spec_used, Option.bind_some, List.all_cons, okC]
    by_cases h1 : 0 ≤ l[i].f0 ∧ l[i].f0 ≤ 4000003 <;> by_cases h2 : -1000000000 ≤ l[i].f1 ∧ l[i].f1 ≤ 1000000000 <;> by_cases h3 : l[i].f0 / 2 % 2 = 1 <;> by_cases h4 : l[i].f1 = 0 <;> simp [h1, h2, h3, h4]
def okCs (l : List S30) : Bool := decide (l.length = 6) && l.all okC
theorem spec_cells (l : List S30) (hl : l.length ≤ 1048576) (k : Nat) (hk : l.length < k) : spec_CellsOk.f k l = some (okCs l) := by
  unfold spec_CellsOk.f okCs
  by_cases h : l.length = 6
  · rw [if_pos (by omega)]
    have e := spec_cells_from l hl l.length 0 k (by omega) hk
    rw [show ((0 : Nat) : Int) = 0 from rfl] at e
    rw [e]
    simp [h]
  · rw [if_neg (by omega)]
    simp [h]
theorem impl_cell (x : S30) : impl_areCells_1.f x.f0 x.f1 = some (!okC x) := by
  simp only [impl_areCells_1.f, impl_isHead.f, impl_isValue.f, within_, Option.bind_some, okC]
  by_cases h1 : 0 ≤ x.f0 ∧ x.f0 ≤ 4000003
  · by_cases h2 : -1000000000 ≤ x.f1 ∧ x.f1 ≤ 1000000000
    · rw [if_pos (by simpa using h1), if_pos (by simpa using h2), and2]
      by_cases h3 : x.f0 / 2 % 2 = 1
      · rw [if_neg (by omega)]
        simp [h1, h2, h3]
      · rw [if_pos (by omega)]
        by_cases h4 : x.f1 = 0 <;> simp [h1, h2, h3, h4]
    · rw [if_pos (by simpa using h1), if_neg (by simpa using h2)]
      simp [h1, h2]
  · rw [if_neg (by simpa using h1)]
    simp [h1]
theorem impl_cells (l : List S30) : impl_areCells.f l = some (okCs l) := by
  unfold impl_areCells.f okCs
  by_cases h : l.length = 6
  · rw [if_pos (by omega)]
    obtain ⟨r, e, hr⟩ := idx_total (fun x : S30 => impl_areCells_1.f x.f0 x.f1) (fun x => !okC x) l (fun x _ => impl_cell x) 0
    simp only [impl_Cell_105.f, e, Option.bind_some, hr]
    rw [← List.not_all_eq_any_not]
    simp [h]
  · rw [if_neg (by omega)]
    simp [h]
theorem spec_locked (a : Int) : spec_Locked.f a = some (decide (0 ≤ a ∧ a ≤ 4000003) && decide (a % 2 = 1)) := by
  simp only [spec_Locked.f, spec_HeadOk.f, in_, Option.bind_some]
  by_cases h : 0 ≤ a ∧ a ≤ 4000003
  · rw [if_pos (by simpa using h), Int.tmod_eq_emod_of_nonneg h.1]
    simp [h]
    rfl
  · rw [if_neg (by simpa using h)]
    simp [h]
theorem okCs_head {l : List S30} (h : okCs l = true) {i : Nat} (hi : i < l.length) : 0 ≤ l[i].f0 ∧ l[i].f0 ≤ 4000003 := by
  unfold okCs at h
  rw [Bool.and_eq_true, List.all_eq_true] at h
  have e := h.2 l[i] (List.getElem_mem hi)
  unfold okC at e
  rw [Bool.and_eq_true] at e
  exact of_decide_eq_true e.1
theorem okCs_len {l : List S30} (h : okCs l = true) : l.length = 6 := by
  unfold okCs at h
  rw [Bool.and_eq_true] at h
  exact of_decide_eq_true h.1
theorem has_from (l : List Int) (n : Int) (hl : l.length ≤ maxLen) : ∀ d i k, i + d = l.length → d < k → spec_l3Has.l0 k l n (i : Int) = some (decide (n ∈ l.drop i)) := by
  unfold maxLen at hl
  intro d
  induction d with
  | zero =>
    intro i k hd hk
    obtain ⟨k, rfl⟩ : ∃ m, k = m + 1 := ⟨k - 1, by omega⟩
    simp only [spec_l3Has.l0]
    rw [if_neg (by omega), List.drop_of_length_le (by omega)]
    simp
  | succ d ih =>
    intro i k hd hk
    obtain ⟨k, rfl⟩ : ∃ m, k = m + 1 := ⟨k - 1, by omega⟩
    simp only [spec_l3Has.l0]
    rw [if_pos (by omega), if_pos (by omega), rd_get (show i < l.length by omega), wrap_of (by omega) (by omega), List.drop_eq_getElem_cons (show i < l.length by omega)]
    by_cases h : l[i] = n
    · rw [if_pos h, decide_eq_true (show n ∈ l[i] :: l.drop (i + 1) by rw [h]; exact List.mem_cons_self)]
    · rw [if_neg h]
      have := ih (i + 1) k (by omega) (by omega)
      rw [show ((i + 1 : Nat) : Int) = (i : Int) + 1 from by omega] at this
      rw [this]
      have h' : ¬ n = l[i] := fun e => h e.symm
      simp only [List.mem_cons, h', false_or]
theorem has_ok (l : List Int) (n : Int) (hl : l.length ≤ maxLen) (k : Nat) (hk : l.length < k) : spec_l3Has.f k l n = some (decide (n ∈ l)) := by
  have := has_from l n hl l.length 0 k (by omega) hk
  simpa [spec_l3Has.f] using this
theorem index_from (l : List Int) (n : Int) (hl : l.length ≤ maxLen) : ∀ d i k, i + d = l.length → d < k → ∃ r, slices_Index_int64_int64.l0 k l n (l.length : Int) (i : Int) = some r ∧ (0 ≤ r ↔ n ∈ l.drop i) := by
  unfold maxLen at hl
  intro d
  induction d with
  | zero =>
    intro i k hd hk
    obtain ⟨k, rfl⟩ : ∃ m, k = m + 1 := ⟨k - 1, by omega⟩
    simp only [slices_Index_int64_int64.l0]
    rw [if_neg (by omega), List.drop_of_length_le (by omega)]
    exact ⟨-1, rfl, by simp⟩
  | succ d ih =>
    intro i k hd hk
    obtain ⟨k, rfl⟩ : ∃ m, k = m + 1 := ⟨k - 1, by omega⟩
    simp only [slices_Index_int64_int64.l0]
    rw [if_pos (by omega), if_pos (by omega), if_pos (by omega), rd_get (show i < l.length by omega), wrap_of (by omega) (by omega), List.drop_eq_getElem_cons (show i < l.length by omega)]
    by_cases h : n = l[i]
    · rw [if_pos h]
      exact ⟨i, rfl, ⟨fun _ => by rw [h]; exact List.mem_cons_self, fun _ => by omega⟩⟩
    · rw [if_neg h]
      have := ih (i + 1) k (by omega) (by omega)
      rw [show ((i + 1 : Nat) : Int) = (i : Int) + 1 from by omega] at this
      obtain ⟨r, e, hr⟩ := this
      exact ⟨r, e, by simp only [hr, List.mem_cons, h, false_or]⟩
theorem contains_ok (l : List Int) (n : Int) (hl : l.length ≤ maxLen) (k : Nat) (hk : l.length < k) : slices_Contains_int64_int64.f k l n = some (decide (n ∈ l)) := by
  obtain ⟨r, e, hr⟩ := index_from l n hl l.length 0 k (by omega) hk
  simp only [slices_Contains_int64_int64.f, slices_Index_int64_int64.f]
  rw [show ((0 : Nat) : Int) = 0 from rfl] at e
  rw [e]
  simp only [List.drop_zero] at hr
  simp [hr]
theorem new_ok (l : List Int) (hl : l.length ≤ maxLen) (k : Nat) (hk : l.length < k) : ∃ h, spec_l1New.f k l = some (l, 0, h) := by
  unfold maxLen at hl
  obtain ⟨r, ⟨h, rfl⟩, e⟩ := loop_inv (fun k (s : Int × Int) => spec_l1New.l0 k l s.1 s.2) (fun i s => s.2 = (i : Int)) (fun r => ∃ h, r = (l, 0, h)) l.length 0
    (fun k i s _ hi hP => .inl ⟨(Go.bits .and .i64 (wrap64 ((wrap64 ((wrap64 (s.1 * 137)) + (wrap64 (rd l s.2)))) + 11)) 1073741823, wrap64 (s.2 + 1)), by
      show wrap64 (s.2 + 1) = ((i + 1 : Nat) : Int)
      rw [hP, wrap_of (by omega) (by omega)]; omega, by
      show spec_l1New.l0 (k + 1) l s.1 s.2 = _
      simp only [spec_l1New.l0]
      rw [if_pos (by omega), if_pos (by omega)]⟩)
    (fun k s _ hP => ⟨_, ⟨s.1, rfl⟩, by
      show spec_l1New.l0 (k + 1) l s.1 s.2 = _
      simp only [spec_l1New.l0]
      rw [if_neg (by omega)]⟩) l.length 0 k (wrap64 (101027 + (l.length : Int)), 0) (by omega) (by omega) rfl
  exact ⟨h, e⟩
theorem byte_ok (l : List Int) (hl : l.length ≤ maxLen) (i h : Int) (hi : 0 ≤ i) : Ok (fun r : Int × Int × Int => 0 ≤ r.1 ∧ r.1 ≤ 255 ∧ 0 ≤ r.2.1) (spec_l1Byte.f l i h) := by
  unfold maxLen at hl
  unfold spec_l1Byte.f
  refine Ok.ite (fun h1 => Ok.pos hi (Ok.ret ?_)) (fun _ => Ok.ret ?_)
  · simp only [and255]
    refine ⟨by omega, by omega, ?_⟩
    rw [wrap_of (by omega) (by omega)]; omega
  · simp only [and255]
    exact ⟨by omega, by omega, hi⟩
theorem below_ok (l : List Int) (hl : l.length ≤ maxLen) (i h : Int) (hi : 0 ≤ i) (n : Int) : Ok (fun r : Int × Int × Int => 0 ≤ r.1 ∧ (0 < n → r.1 < n) ∧ (n ≤ 0 → r.1 = 0) ∧ 0 ≤ r.2.1) (spec_l1Below.f l i h n) := by
  unfold spec_l1Below.f
  refine Ok.ite (fun h1 => Ok.ret ⟨by omega, by omega, by omega, hi⟩) (fun h1 => Ok.ite (fun h2 => ?_) (fun h2 => ?_))
  · refine Ok.bind (byte_ok l hl i h hi) fun r hr => Ok.neg (by omega) (Ok.ret ?_)
    obtain ⟨b, i', h'⟩ := r
    obtain ⟨q1, q2, q3⟩ := hr
    dsimp only at *
    rw [Int.tmod_eq_emod_of_nonneg q1]
    exact ⟨Int.emod_nonneg _ (by omega), fun _ => Int.emod_lt_of_pos _ (by omega), by omega, q3⟩
  · refine Ok.bind (byte_ok l hl i h hi) fun r1 h1' => Ok.bind (byte_ok l hl r1.2.1 r1.2.2 h1'.2.2) fun r2 h2' => Ok.bind (byte_ok l hl r2.2.1 r2.2.2 h2'.2.2) fun r3 h3' => Ok.bind (byte_ok l hl r3.2.1 r3.2.2 h3'.2.2) fun r4 h4' => Ok.neg (by omega) (Ok.ret ?_)
    obtain ⟨b1, i1, h1⟩ := r1
    obtain ⟨b2, i2, h2⟩ := r2
    obtain ⟨b3, i3, h3⟩ := r3
    obtain ⟨b4, i4, h4⟩ := r4
    obtain ⟨p1, p2, p3⟩ := h1'
    obtain ⟨q1, q2, q3⟩ := h2'
    obtain ⟨u1, u2, u3⟩ := h3'
    obtain ⟨v1, v2, v3⟩ := h4'
    dsimp only at *
    rw [wrap_of (x := b1 * 16777216) (by omega) (by omega), wrap_of (x := b2 * 65536) (by omega) (by omega), wrap_of (x := b1 * 16777216 + b2 * 65536) (by omega) (by omega), wrap_of (x := b3 * 256) (by omega) (by omega), wrap_of (x := b1 * 16777216 + b2 * 65536 + b3 * 256) (by omega) (by omega), wrap_of (x := b1 * 16777216 + b2 * 65536 + b3 * 256 + b4) (by omega) (by omega), Int.tmod_eq_emod_of_nonneg (by omega)]
    exact ⟨Int.emod_nonneg _ (by omega), fun _ => Int.emod_lt_of_pos _ (by omega), by omega, v3⟩
theorem once_ok (l : List Int) (hl : l.length ≤ maxLen) (i h : Int) (hi : 0 ≤ i) (n : Int) : Ok (fun r : Bool × Int × Int => 0 ≤ r.2.1) (spec_l1Once.f l i h n) := by
  unfold spec_l1Once.f
  exact Ok.bind (below_ok l hl i h hi n) fun r hr => Ok.ret hr.2.2.2
theorem drawHead_ok (l : List Int) (hl : l.length ≤ maxLen) (i h : Int) (hi : 0 ≤ i) : Ok (fun r : Int × Int × Int => 0 ≤ r.2.1) (spec_l1DrawHead.f l i h) := by
  unfold spec_l1DrawHead.f
  refine Ok.bind (once_ok l hl i h hi 10) fun r2 h2 => Ok.ite (fun _ => ?_) (fun _ => ?_)
  · (try simp only [Option.bind_some])
    refine Ok.bind (below_ok l hl _ _ h2 7) fun r3 h3 => ?_
    exact Ok.pos h3.1 (Ok.pos (by have := h3.2.1 (by decide); simp; omega) (Ok.ret h3.2.2.2))
  · refine Ok.bind (below_ok l hl _ _ h2 60) fun r3 h3 => ?_
    exact Ok.ret h3.2.2.2
theorem head_ok (a : Int) (u l : Bool) : Ok (fun _ => True) (spec_l1Head.f a u l) := by
  unfold spec_l1Head.f
  exact Ok.ite (fun _ => Ok.ite (fun _ => Ok.ret trivial) fun _ => Ok.ret trivial) fun _ => Ok.ite (fun _ => Ok.ret trivial) fun _ => Ok.ret trivial
theorem from_ok (l : List Int) (hl : l.length ≤ maxLen) (i h : Int) (hi : 0 ≤ i) (a b : Int) : Ok (fun r : Int × Int × Int => 0 ≤ r.2.1) (spec_l1From.f l i h a b) := by
  unfold spec_l1From.f
  exact Ok.bind (below_ok l hl i h hi _) fun r hr => Ok.ret hr.2.2.2
theorem drawCells_from (l : List Int) (hl : l.length ≤ maxLen) : ∀ d (i : Nat) k (x : List S30) (j h : Int), i + d = 6 → d < k → x.length = 6 → 0 ≤ j → Ok (fun r : List S30 × Int × Int => r.1.length = 6 ∧ 0 ≤ r.2.1) (spec_l3Draw.l0 k x (i : Int) l j h) := by
  intro d
  induction d with
  | zero =>
    intro i k x j h hd hk hx hj
    obtain ⟨k, rfl⟩ : ∃ q, k = q + 1 := ⟨k - 1, by omega⟩
    simp only [spec_l3Draw.l0]
    exact Ok.neg (by omega) (Ok.ret ⟨hx, hj⟩)
  | succ d ih =>
    intro i k x j h hd hk hx hj
    obtain ⟨k, rfl⟩ : ∃ q, k = q + 1 := ⟨k - 1, by omega⟩
    simp only [spec_l3Draw.l0]
    have ew : wrap64 ((i : Int) + 1) = ((i + 1 : Nat) : Int) := by rw [wrap_of (by omega) (by omega)]; omega
    refine Ok.pos (by omega) (Ok.bind (once_ok l hl j h hj 2) fun r1 h1 => Ok.bind (below_ok l hl _ _ h1 6) fun r2 h2 => Ok.bind (once_ok l hl _ _ h2.2.2.2 5) fun r3 h3 => Ok.bind (head_ok _ _ _) fun r4 _ => Ok.pos (by omega) ?_)
    (try simp only [Option.bind_some])
    refine Ok.ite (fun _ => Ok.bind (from_ok l hl _ _ h3 (-50) 50) fun r5 h5 => ?_) (fun _ => ?_)
    · rw [ew]
      exact ih (i + 1) k _ _ _ (by omega) (by omega) (by simp [hx]) h5
    · rw [ew]
      exact ih (i + 1) k _ _ _ (by omega) (by omega) (by simp [hx]) h3
theorem drawCells_ok (l : List Int) (hl : l.length ≤ maxLen) (i h : Int) (hi : 0 ≤ i) (k : Nat) (hk : 6 < k) : Ok (fun r : List S30 × Int × Int => r.1.length = 6 ∧ 0 ≤ r.2.1) (spec_l3Draw.f k l i h) := by
  unfold spec_l3Draw.f spec_NewCells.f
  rw [if_pos (by decide)]
  exact drawCells_from l hl 6 0 k _ _ _ (by omega) hk (by simp) hi
theorem drawAny_ok (l : List Int) (hl : l.length ≤ maxLen) (i h : Int) (hi : 0 ≤ i) (k : Nat) (hk : 6 < k) : Ok (fun r : List S30 × Int × Int => r.1.length ≤ 6 ∧ 0 ≤ r.2.1) (spec_l3DrawAny.f k l i h) := by
  unfold spec_l3DrawAny.f
  refine Ok.bind (drawCells_ok l hl i h hi k hk) fun r hr => Ok.bind (once_ok l hl _ _ hr.2 12) fun r2 h2 => Ok.ite (fun _ => Ok.bind (below_ok l hl _ _ h2 6) fun r3 h3 => Ok.bind (below_ok l hl _ _ h3.2.2.2 3) fun r4 h4 => ?_) (fun _ => Ok.ret ⟨by show r.1.length ≤ 6; omega, h2⟩)
  have h36 := h3.2.1 (by decide)
  refine Ok.ite (fun _ => Ok.bind (drawHead_ok l hl _ _ h4.2.2.2) fun r5 h5 => Ok.pos h3.1 (Ok.pos (by omega) (Ok.ret ⟨by simp; omega, h5⟩))) (fun _ => Ok.ite (fun _ => ?_) (fun _ => Ok.ite (fun _ => Ok.pos (by omega) (Ok.ret ⟨by simp; omega, h4.2.2.2⟩)) (fun _ => Ok.ret ⟨by show r.1.length ≤ 6; omega, h4.2.2.2⟩)))
  (try simp only [Option.bind_some])
  exact Ok.bind (below_ok l hl _ _ h4.2.2.2 4) fun r5 h5 => Ok.pos h5.1 (Ok.pos (by have := h5.2.1 (by decide); simp; omega) (Ok.pos h3.1 (Ok.pos (by omega) (Ok.ret ⟨by simp; omega, h5.2.2.2⟩))))
theorem usd (a : Int) : impl_Used.f a = some (decide (0 ≤ a ∧ a ≤ 4000003 ∧ a / 2 % 2 = 1)) := by
  simp only [impl_Used.f, impl_isHead.f, within_, Option.bind_some, and2]
  by_cases h : 0 ≤ a ∧ a ≤ 4000003
  · rw [if_pos (by simpa using h)]
    rcases (by omega : a / 2 % 2 = 0 ∨ a / 2 % 2 = 1) with e | e <;> rw [e] <;> simp [h]
  · rw [if_neg (by simpa using h)]
    simp; omega
theorem lkd (a : Int) : impl_Locked.f a = some (decide (0 ≤ a ∧ a ≤ 4000003 ∧ a % 2 = 1)) := by
  simp only [impl_Locked.f, impl_isHead.f, within_, Option.bind_some, and1]
  by_cases h : 0 ≤ a ∧ a ≤ 4000003
  · rw [if_pos (by simpa using h)]
    rcases (by omega : a % 2 = 0 ∨ a % 2 = 1) with e | e <;> rw [e] <;> simp [h]
  · rw [if_neg (by simpa using h)]
    simp; omega
theorem but_from (l : List Int) (hl : l.length ≤ maxLen) (c : List S30) : ∀ (d : Nat) k (m : List Int) (j h : Int), d < k → m.length + d ≤ 3 → 0 ≤ j → Ok (fun r : List S30 × List Int => r.1 = c ∧ r.2.length ≤ 3) (spec_DrawFreeSlot.l0 k c m (d : Int) l j h) := by
  intro d
  induction d with
  | zero =>
    intro k m j h hk hm hj
    obtain ⟨k, rfl⟩ : ∃ q, k = q + 1 := ⟨k - 1, by omega⟩
    simp only [spec_DrawFreeSlot.l0]
    exact Ok.neg (by omega) (Ok.ret ⟨rfl, by show m.length ≤ 3; omega⟩)
  | succ d ih =>
    intro k m j h hk hm hj
    obtain ⟨k, rfl⟩ : ∃ q, k = q + 1 := ⟨k - 1, by omega⟩
    simp only [spec_DrawFreeSlot.l0]
    have ew : wrap64 (((d + 1 : Nat) : Int) - 1) = (d : Int) := by rw [wrap_of (by omega) (by omega)]; omega
    refine Ok.pos (by omega) (Ok.bind (below_ok l hl j h hj 6) fun r1 h1 => Ok.pos (by omega) ?_)
    rw [ew]
    exact ih k _ _ _ (by omega) (by simp; omega) h1.2.2.2
theorem drawFree_ok (l : List Int) (hl : l.length ≤ maxLen) (k : Nat) (hk : l.length < k) (hk2 : 6 < k) : Ok (fun r : List S30 × List Int => r.1.length ≤ 6 ∧ r.2.length ≤ 3) (spec_DrawFreeSlot.f k l) := by
  unfold spec_DrawFreeSlot.f
  obtain ⟨h, e⟩ := new_ok l hl k hk
  rw [e]
  simp only [Option.bind_some]
  refine Ok.bind (drawAny_ok l hl 0 h (Int.le_refl 0) k hk2) fun r1 h1 => Ok.bind (below_ok l hl _ _ h1.2 4) fun r2 h2 => ?_
  have h3 := h2.2.1 (by decide)
  obtain ⟨n, hn⟩ : ∃ n : Nat, r2.1 = (n : Int) := ⟨r2.1.toNat, by have := h2.1; omega⟩
  rw [hn]
  exact (but_from l hl r1.1 n k [] _ _ (by omega) (by simp; omega) h2.2.2.2).mono fun r hr => ⟨by rw [hr.1]; exact h1.1, hr.2⟩
theorem free_in (l : List S30) (m : List Int) (hm : m.length ≤ 3) (r i : Int) : ∀ d (j : Nat) k (f : Bool), j + d = m.length → d + 5 < k → laws_FnFreeSlots.l1 k l m r i f (j : Int) = if (f && decide (i ∉ m.drop j)) = true then some (r == i) else laws_FnFreeSlots.l0 (k - d - 1) l m r (wrap64 (i + 1)) := by
  intro d
  induction d with
  | zero =>
    intro j k f hd hk
    obtain ⟨k, rfl⟩ : ∃ q, k = q + 1 := ⟨k - 1, by omega⟩
    simp only [laws_FnFreeSlots.l1]
    rw [if_neg (by omega), List.drop_of_length_le (by omega)]
    cases f <;> simp
  | succ d ih =>
    intro j k f hd hk
    obtain ⟨k, rfl⟩ : ∃ q, k = q + 1 := ⟨k - 1, by omega⟩
    have ek : k + 1 - (d + 1) - 1 = k - d - 1 := by omega
    have e := fun f => ih (j + 1) k f (by omega) (by omega)
    rw [show ((j + 1 : Nat) : Int) = (j : Int) + 1 from by omega] at e
    simp only [laws_FnFreeSlots.l1, if_pos (show (j : Int) < (m.length : Int) by omega), if_pos (show (0 : Int) ≤ (j : Int) by omega), wrap_of (x := (j : Int) + 1) (by omega) (by omega), rd_get (show j < m.length by omega), e, ek]
    rw [List.drop_eq_getElem_cons (show j < m.length by omega)]
    cases f
    · simp
    · by_cases h : m[j] = i
      · simp [h]
      · have h' : ¬ i = m[j] := fun e => h e.symm
        have hq : decide (i ∉ m[j] :: m.drop (j + 1)) = decide (i ∉ m.drop (j + 1)) := by simp only [List.mem_cons, h', false_or]
        rw [hq]
        simp [h]
theorem slots_from (l : List S30) (h : okCs l = true) (m : List Int) (hm : m.length ≤ 3) : ∀ d (i : Nat), i + d = 6 → ∃ r : Int, ∀ k, 20 * d + 20 < k → spec_FreeSlot.l0 k l m (i : Int) = some r ∧ impl_freeSlot.l0 k l m (i : Int) = some r ∧ laws_FnFreeSlots.l0 k l m r (i : Int) = some true := by
  have h6 := okCs_len h
  have hM : m.length ≤ maxLen := by unfold maxLen; omega
  intro d
  induction d with
  | zero =>
    intro i hd
    refine ⟨-1, fun k hk => ?_⟩
    obtain ⟨k, rfl⟩ : ∃ q, k = q + 1 := ⟨k - 1, by omega⟩
    simp only [spec_FreeSlot.l0, impl_freeSlot.l0, laws_FnFreeSlots.l0, if_neg (show ¬ ((i : Int) < 6) by omega)]
    exact ⟨trivial, trivial, by simp⟩
  | succ d ih =>
    intro i hd
    obtain ⟨r, hr⟩ := ih (i + 1) (by omega)
    have hi : i < l.length := by omega
    have hh := okCs_head h hi
    have ec : ((i + 1 : Nat) : Int) = (i : Int) + 1 := by omega
    refine ⟨if l[i].f0 % 4 = 0 ∧ (i : Int) ∉ m then (i : Int) else r, fun k hk => ?_⟩
    obtain ⟨k, rfl⟩ : ∃ q, k = q + 1 + 1 := ⟨k - 2, by omega⟩
    obtain ⟨e1, e2, _⟩ := hr (k + 1) (by omega)
    obtain ⟨_, _, e3⟩ := hr (k - m.length - 1) (by omega)
    have en := fun (q : Int) (f : Bool) => free_in l m hm q (i : Int) m.length 0 k f (by omega) (by omega)
    rw [show ((0 : Nat) : Int) = 0 from rfl] at en
    rw [ec] at e1 e2 e3
    obtain ⟨q, hq⟩ : ∃ q, q = k + 1 := ⟨_, rfl⟩
    have hj : ∀ (a : Int) (f : Bool), laws_FnFreeSlots.j1 q l m a (i : Int) f = laws_FnFreeSlots.l1 k l m a (i : Int) f 0 := fun a f => by rw [hq]; rfl
    rw [← hq] at e1 e2 ⊢
    simp only [spec_FreeSlot.l0, impl_freeSlot.l0, laws_FnFreeSlots.l0, hj, usd, lkd, spec_used, spec_locked, has_ok m _ hM q (by omega), contains_ok m _ hM q (by omega), Option.bind_some, and3, if_pos (show (i : Int) < 6 by omega), if_pos (show (0 : Int) ≤ (i : Int) by omega), if_pos (show (i : Int) < (l.length : Int) by omega), wrap_of (x := (i : Int) + 1) (by omega) (by omega), rd30_get hi, e1, e2, en, List.drop_zero]
    by_cases h4 : l[i].f0 % 4 = 0
    · have hu : ¬ (l[i].f0 / 2 % 2 = 1) := by omega
      have hl : ¬ (l[i].f0 % 2 = 1) := by omega
      by_cases h5 : (i : Int) ∈ m <;> simp [h4, hh, hu, hl, h5, e3]
    · by_cases hu : l[i].f0 / 2 % 2 = 1
      · simp [h4, hh, hu, e3]
      · have hl : l[i].f0 % 2 = 1 := by omega
        simp [h4, hh, hu, hl, e3]
theorem FnFreeSlots : SFnFreeSlots.Pure := by
  intro l hl _
  obtain ⟨K, hK⟩ : ∃ K, 2000000 < K := ⟨_, Nat.lt_succ_self _⟩
  refine ⟨K, ?_⟩
  unfold laws_FnFreeSlots.f
  simp only [laws_big.f, Option.bind_some]
  by_cases hb : (l.length : Int) > 4096
  · rw [if_pos (by simpa using hb)]
  · rw [if_neg (by simpa using hb)]
    obtain ⟨⟨c, m⟩, e, hc, hm⟩ := drawFree_ok l hl K (by omega) (by omega)
    rw [e]
    simp only [Option.bind_some, impl_FreeSlot.f, spec_FreeSlot.f, impl_freeSlot.f, impl_cells, spec_cells c (by dsimp only at hc; omega) K (by dsimp only at hc; omega), impl_CellsOk.f]
    by_cases h : okCs c = true
    · obtain ⟨r, hr⟩ := slots_from c h m hm 6 0 (by omega)
      obtain ⟨e1, e2, e3⟩ := hr K (by omega)
      rw [show ((0 : Nat) : Int) = 0 from rfl] at e1 e2 e3
      simp [h, e1, e2, e3]
    · simp [h]
end Go.Proofs.Ytgdfbjmjgegicaa.Pure
