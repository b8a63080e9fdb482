/- Proved: the law FnExactShowRecord answers true at every argument: the program answers as the reference, wherever the law's own guards let the argument in. Conditions: none beyond the given row's. -/
import Derived.Test.YtnilfnkdgdfnnaaDoorSFnExactShowRecord
import Derived.Test.YtnilfnkdgdfnnaaDoorGenSh
import Derived.Lib.ItoaLen
namespace Go.Proofs.YtnilfnkdgdfnnaaDoor.Pure
open Go.RowKit Go.Proofs.YtnilfnkdgdfnnaaDoor.XSh Go.Proofs.YtnilfnkdgdfnnaaDoor.Opened Go.Proofs.YtnilfnkdgdfnnaaDoorW.PrintWords Go.Proofs.YtnilfnkdgdfnnaaDoorW.PrintLast Go.Proofs.YtnilfnkdgdfnnaaDoor.SFnExactShowRecord Go.Proofs.YtnilfnkdgdfnnaaDoor.Gen
set_option linter.unusedSimpArgs false
set_option linter.unusedVariables false
open Go.Proofs.YtnilfnkdgdfnnaaDoor.Aid
theorem in_ (a b c : Int) : spec_l1In.f a b c = some (decide (b ≤ a ∧ a ≤ c)) := by
  unfold spec_l1In.f
  by_cases h : a ≥ b <;> simp [h]
theorem within_ (a b c : Int) : impl_within.f a b c = some (decide (b ≤ a ∧ a ≤ c)) := by
  unfold impl_within.f
  by_cases h : a ≥ b <;> simp [h]
theorem rd47_get {l : List S47} {i : Nat} (h : i < l.length) : rd_T47 l (i : Int) = l[i] := by
  unfold rd_T47
  rw [Int.toNat_natCast, List.getD_eq_getElem?_getD, List.getElem?_eq_getElem h]
  rfl
theorem rd47_set {l : List S47} {i : Nat} (h : i < l.length) (v : S47) : rd_T47 (l.set i v) (i : Int) = v := by
  rw [rd47_get (by rw [List.length_set]; exact h)]
  simp
theorem rd56_get {l : List S56} {i : Nat} (h : i < l.length) : rd_T56 l (i : Int) = l[i] := by
  unfold rd_T56
  rw [Int.toNat_natCast, List.getD_eq_getElem?_getD, List.getElem?_eq_getElem h]
  rfl
theorem rd56_set {l : List S56} {i : Nat} (h : i < l.length) (v : S56) : rd_T56 (l.set i v) (i : Int) = v := by
  rw [rd56_get (by rw [List.length_set]; exact h)]
  simp
def okS (x : S47) : Bool := decide (0 ≤ x.f0 ∧ x.f0 ≤ 5) && (decide (0 ≤ x.f1 ∧ x.f1 ≤ 5) && (decide (-1000000000 ≤ x.f2 ∧ x.f2 ≤ 1000000000) && decide (0 ≤ x.f4 ∧ x.f4 ≤ 999999)))
theorem spec_set (x : S47) : spec_SetOk.f x.f0 x.f1 x.f2 x.f3 x.f4 = some (okS x) := by
  simp only [spec_SetOk.f, spec_l1Region.f, spec_l1Slot.f, spec_l1Value.f, in_, Option.bind_some, okS]
  by_cases h1 : 0 ≤ x.f0 ∧ x.f0 ≤ 5 <;> by_cases h2 : 0 ≤ x.f1 ∧ x.f1 ≤ 5 <;> by_cases h3 : -1000000000 ≤ x.f2 ∧ x.f2 ≤ 1000000000 <;> simp [h1, h2, h3]
theorem impl_set (x : S47) : impl_isSet.f x.f0 x.f1 x.f2 x.f3 x.f4 = some (okS x) := by
  simp only [impl_isSet.f, impl_isRegion.f, impl_isSlot.f, impl_isValue.f, within_, Option.bind_some, okS]
  by_cases h1 : 0 ≤ x.f0 ∧ x.f0 ≤ 5 <;> by_cases h2 : 0 ≤ x.f1 ∧ x.f1 ≤ 5 <;> by_cases h3 : -1000000000 ≤ x.f2 ∧ x.f2 ≤ 1000000000 <;> simp [h1, h2, h3]
/-- The set at place i is right, and stands rightly behind the one ahead of it. -/
def stepS (l : List S47) (i : Nat) : Bool := okS (rd_T47 l (i : Int)) && (decide (i = 0) || (decide ((rd_T47 l (i : Int)).f0 = (rd_T47 l 0).f0) && decide ((rd_T47 l ((i : Int) - 1)).f1 < (rd_T47 l (i : Int)).f1)))
def okSs (l : List S47) : Nat → Nat → Bool
  | _, 0 => true
  | i, d + 1 => stepS l i && okSs l (i + 1) d
theorem spec_sets_from (l : List S47) (hl : l.length ≤ 1048576) : ∀ d i k, i + d = l.length → 2 * d + 2 < k → spec_l2Sets.l0 k l (i : Int) = some (okSs l i d) := by
  intro d
  induction d with
  | zero =>
    intro i k hd hk
    obtain ⟨k, rfl⟩ : ∃ q, k = q + 1 := ⟨k - 1, by omega⟩
    simp only [spec_l2Sets.l0]
    rw [if_neg (by omega)]
    rfl
  | succ d ih =>
    intro i k hd hk
    obtain ⟨k, rfl⟩ : ∃ q, k = q + 1 := ⟨k - 1, by omega⟩
    have e := ih (i + 1) k (by omega) (by omega)
    rw [show ((i + 1 : Nat) : Int) = (i : Int) + 1 from by omega] at e
    simp only [spec_l2Sets.l0, spec_set, Option.bind_some, if_pos (show (i : Int) < (l.length : Int) by omega), if_pos (show (0 : Int) ≤ (i : Int) by omega), wrap_of (x := (i : Int) + 1) (by omega) (by omega), e, okSs, stepS]
    by_cases h0 : (i : Int) > 0
    · have h0' : ¬ i = 0 := by omega
      simp only [if_pos h0, wrap_of (x := (i : Int) - 1) (by omega) (by omega), if_pos (show 0 ≤ (i : Int) - 1 by omega), if_pos (show (i : Int) - 1 < (l.length : Int) by omega), if_pos (show (0 : Int) < (l.length : Int) by omega)]
      by_cases a2 : (rd_T47 l (i : Int)).f1 ≤ (rd_T47 l ((i : Int) - 1)).f1
      · have a2' : ¬ (rd_T47 l ((i : Int) - 1)).f1 < (rd_T47 l (i : Int)).f1 := by omega
        cases okS (rd_T47 l (i : Int)) <;> simp [h0', a2, a2']
      · have a2' : (rd_T47 l ((i : Int) - 1)).f1 < (rd_T47 l (i : Int)).f1 := by omega
        by_cases a3 : (rd_T47 l (i : Int)).f0 = (rd_T47 l 0).f0 <;> cases okS (rd_T47 l (i : Int)) <;> simp [h0', a2, a2', a3]
    · have h0' : i = 0 := by omega
      rw [if_neg h0]
      cases okS (rd_T47 l (i : Int)) <;> simp [h0']
theorem impl_sets_from (l : List S47) (hl : l.length ≤ 1048576) : ∀ d i k, i + d = l.length → 2 * d + 2 < k → impl_areSets.l0 k l l (l.length : Int) (i : Int) = some (okSs l i d) := by
  intro d
  induction d with
  | zero =>
    intro i k hd hk
    obtain ⟨k, rfl⟩ : ∃ q, k = q + 1 := ⟨k - 1, by omega⟩
    simp only [impl_areSets.l0]
    rw [if_neg (by omega)]
    rfl
  | succ d ih =>
    intro i k hd hk
    obtain ⟨k, rfl⟩ : ∃ q, k = q + 1 := ⟨k - 1, by omega⟩
    have e := ih (i + 1) k (by omega) (by omega)
    rw [show ((i + 1 : Nat) : Int) = (i : Int) + 1 from by omega] at e
    simp only [impl_areSets.l0, impl_set, Option.bind_some, if_pos (show (i : Int) < (l.length : Int) by omega), if_pos (show (0 : Int) ≤ (i : Int) by omega), if_pos (show (0 : Int) < (l.length : Int) by omega), wrap_of (x := (i : Int) + 1) (by omega) (by omega), e, okSs, stepS]
    by_cases h0 : (i : Int) > 0
    · have h0' : ¬ i = 0 := by omega
      simp only [if_pos h0, wrap_of (x := (i : Int) - 1) (by omega) (by omega), if_pos (show 0 ≤ (i : Int) - 1 by omega), if_pos (show (i : Int) - 1 < (l.length : Int) by omega)]
      by_cases a2 : (rd_T47 l (i : Int)).f1 ≤ (rd_T47 l ((i : Int) - 1)).f1
      · have a2' : ¬ (rd_T47 l ((i : Int) - 1)).f1 < (rd_T47 l (i : Int)).f1 := by omega
        by_cases a3 : (rd_T47 l (i : Int)).f0 = (rd_T47 l 0).f0 <;> cases okS (rd_T47 l (i : Int)) <;> simp [h0', a2, a2', a3]
      · have a2' : (rd_T47 l ((i : Int) - 1)).f1 < (rd_T47 l (i : Int)).f1 := by omega
        by_cases a3 : (rd_T47 l (i : Int)).f0 = (rd_T47 l 0).f0 <;> cases okS (rd_T47 l (i : Int)) <;> simp [h0', a2, a2', a3]
    · have h0' : i = 0 := by omega
      subst h0'
      rw [if_neg h0]
      cases okS (rd_T47 l ((0 : Nat) : Int)) <;> simp
theorem spec_sets (l : List S47) (hl : l.length ≤ 1048576) (k : Nat) (hk : 2 * l.length + 2 < k) : spec_l2Sets.f k l = some (okSs l 0 l.length) := spec_sets_from l hl l.length 0 k (by omega) hk
theorem impl_sets (l : List S47) (hl : l.length ≤ 1048576) (k : Nat) (hk : 2 * l.length + 2 < k) : impl_areSets.f k l = some (okSs l 0 l.length) := impl_sets_from l hl l.length 0 k (by omega) hk
theorem okSs_at (l : List S47) : ∀ d i, okSs l i d = true → ∀ j, i ≤ j → j < i + d → okS (rd_T47 l (j : Int)) = true := by
  intro d
  induction d with
  | zero => intro i _ j h1 h2; omega
  | succ d ih =>
    intro i h j h1 h2
    simp only [okSs, Bool.and_eq_true] at h
    by_cases hj : j = i
    · subst hj
      have := h.1
      simp only [stepS, Bool.and_eq_true] at this
      exact this.1
    · exact ih (i + 1) h.2 j (by omega) (by omega)
theorem okS_slot {x : S47} (h : okS x = true) : 0 ≤ x.f1 ∧ x.f1 ≤ 5 := by
  simp only [okS, Bool.and_eq_true, decide_eq_true_eq] at h
  exact h.2.1
theorem okS_ver {x : S47} (h : okS x = true) : 0 ≤ x.f4 ∧ x.f4 ≤ 999999 := by
  simp only [okS, Bool.and_eq_true, decide_eq_true_eq] at h
  exact h.2.2.2
def toS (p : S56) : S47 := ⟨p.f0, p.f1, p.f2, p.f3, p.f4⟩
theorem toSetS_ok (l : List S56) (hl : l.length ≤ 1048576) (k : Nat) (hk : l.length < k) : laws_toSetS.f k l = some (l.map toS) := by
  unfold laws_toSetS.f
  rw [if_pos (by omega), if_pos (by omega)]
  exact loop_to (fun k (s : List S47 × Int) => laws_toSetS.l0 k l s.1 s.2) (fun i s => s.2 = (i : Int) ∧ s.1.length = (l.map toS).length ∧ s.1.take i = (l.map toS).take i) l.length 0 (l.map toS)
    (fun k i s hk hi hP => ⟨(s.1.set s.2.toNat (toS l[i]), wrap64 (s.2 + 1)), by
      obtain ⟨h1, h2, h3⟩ := hP
      refine ⟨by show wrap64 (s.2 + 1) = _; rw [h1, wrap_of (by omega) (by omega)]; omega, by show (s.1.set _ _).length = _; rw [List.length_set, h2], ?_⟩
      show (s.1.set s.2.toNat (toS l[i])).take (i + 1) = _
      rw [h1, Int.toNat_natCast]
      exact take_next h2 (by simpa using hi) h3 (by simp), by
      obtain ⟨h1, h2, h3⟩ := hP
      rw [List.length_map] at h2
      show laws_toSetS.l0 (k + 1) l s.1 s.2 = _
      simp only [laws_toSetS.l0, laws_toSet.f]
      rw [if_pos (by omega), if_pos (by omega), h1, rd56_get hi]
      simp only [Option.bind_some]
      rw [if_pos (by omega)]
      rfl⟩)
    (fun k s hk hP => by
      obtain ⟨h1, h2, h3⟩ := hP
      show laws_toSetS.l0 (k + 1) l s.1 s.2 = _
      simp only [laws_toSetS.l0]
      rw [if_neg (by omega)]
      rw [List.take_of_length_le (by rw [h2, List.length_map]; omega), List.take_of_length_le (by simp)] at h3
      rw [h3]) 0 k (List.replicate ((l.length : Int)).toNat z47, 0) (by omega) (by omega) ⟨rfl, by simp, by simp⟩
theorem eqSetS_ok (l : List S47) (hl : l.length ≤ 9000000000000) (k : Nat) (hk : l.length < k) : laws_eqSetS.f k l l = some true := by
  unfold laws_eqSetS.f
  rw [if_pos rfl]
  exact loop_to (fun k (s : Int) => laws_eqSetS.l0 k l l s) (fun i s => s = (i : Int)) l.length 0 true
    (fun k i s hk hi hP => ⟨wrap64 (s + 1), by rw [hP, wrap_of (by omega) (by omega)]; omega, by
      show laws_eqSetS.l0 (k + 1) l l s = _
      simp only [laws_eqSetS.l0]
      rw [if_pos (by omega), if_pos (by omega), if_pos (by omega)]
      simp [laws_eqSet.f]⟩)
    (fun k s _ hP => by
      show laws_eqSetS.l0 (k + 1) l l s = _
      simp only [laws_eqSetS.l0]
      rw [if_neg (by omega)]) 0 k 0 (by omega) (by omega) rfl
theorem szSetS_ok (l : List S56) (a : Int) (ha : 0 ≤ a) (ha' : a ≤ 1048576) (hl : l.length ≤ maxLen) : laws_szSetS.f l a = some (if a < (l.length : Int) then -1 else a - (l.length : Int)) := by
  unfold maxLen at hl
  unfold laws_szSetS.f
  rw [wrap_of (by omega) (by omega)]
  by_cases h : a < (l.length : Int)
  · rw [if_pos (by omega), if_pos h]
  · rw [if_neg (by omega), if_neg h]
theorem okSs_reg (l : List S47) : ∀ d i, okSs l i d = true → ∀ j, i ≤ j → j < i + d → (rd_T47 l (j : Int)).f0 = (rd_T47 l 0).f0 := by
  intro d
  induction d with
  | zero => intro i _ j h1 h2; omega
  | succ d ih =>
    intro i h j h1 h2
    simp only [okSs, Bool.and_eq_true] at h
    by_cases hj : j = i
    · subst hj
      have := h.1
      simp only [stepS, Bool.and_eq_true, Bool.or_eq_true, decide_eq_true_eq] at this
      rcases this.2 with h0 | h0
      · subst h0; rfl
      · exact h0.1
    · exact ih (i + 1) h.2 j (by omega) (by omega)
theorem regions (l : List S47) (q : Int) (h1 : 1 ≤ l.length) (h : okSs l 0 l.length = true) : impl_Set_38.f l q = some (!decide ((rd_T47 l 0).f0 = q)) := by
  obtain ⟨r, e, hr⟩ := idx_total (fun x : S47 => impl_isRecord_1.f x.f0 x.f1 x.f2 x.f3 x.f4 q) (fun x => x.f0 != q) l (fun x _ => rfl) 0
  simp only [impl_Set_38.f, e, Option.bind_some, hr]
  have hall := okSs_reg l l.length 0 h
  by_cases hq : (rd_T47 l 0).f0 = q
  · have : l.any (fun x => x.f0 != q) = false := by
      rw [List.any_eq_false]
      intro x hx
      obtain ⟨j, hj, rfl⟩ := List.mem_iff_getElem.1 hx
      have := hall j (by omega) (by omega)
      rw [rd47_get hj] at this
      simp [this, hq]
    simp [this, hq]
  · have : l.any (fun x => x.f0 != q) = true := by
      rw [List.any_eq_true]
      have h0 : 0 < l.length := by omega
      refine ⟨l[0], List.getElem_mem h0, ?_⟩
      have := rd47_get h0
      rw [show ((0 : Nat) : Int) = 0 from rfl] at this
      rw [this] at hq
      simp [hq]
    simp [this, hq]
theorem record_ok (a b c : Int) (l : List S47) (hl : l.length ≤ 1048576) (k : Nat) (hk : 2 * l.length + 2 < k) : ∃ r, spec_RecordOk.f k a b c l = some r ∧ impl_isRecord.f k a b c l = some r := by
  simp only [spec_RecordOk.f, impl_isRecord.f, spec_l1Id.f, spec_l1Region.f, impl_isId.f, impl_isRegion.f, impl_Set_36.f, in_, within_, spec_sets l hl k hk, impl_sets l hl k hk, Option.bind_some]
  by_cases h1 : 1 ≤ a ∧ a ≤ 3
  · by_cases h2 : 1 ≤ b ∧ b ≤ 1000000
    · by_cases h3 : 0 ≤ c ∧ c ≤ 5
      · by_cases h4 : (l.length : Int) ≥ 1
        · by_cases h5 : (l.length : Int) ≤ 12
          · have h6 : 1 ≤ (l.length : Int) ∧ (l.length : Int) ≤ 12 := ⟨h4, h5⟩
            by_cases h7 : okSs l 0 l.length = true
            · rw [regions l c (by omega) h7]
              have h8 : 0 < l.length := by omega
              by_cases h9 : (rd_T47 l 0).f0 = c <;> simp [h1, h2, h3, h4, h5, h6, h7, h8, h9]
            · simp [h1, h2, h3, h4, h5, h6, h7]
          · have h6 : ¬ (1 ≤ (l.length : Int) ∧ (l.length : Int) ≤ 12) := by omega
            simp only [decide_eq_true h1, decide_eq_true h2, decide_eq_true h3, if_pos h4, if_neg h5, decide_eq_false h6]
            simp
        · have h6 : ¬ (1 ≤ (l.length : Int) ∧ (l.length : Int) ≤ 12) := by omega
          simp only [decide_eq_true h1, decide_eq_true h2, decide_eq_true h3, if_neg h4, decide_eq_false h6]
          simp
      · simp [h1, h2, h3]
    · simp [h1, h2]
  · simp [h1]
theorem okSs_each (l : List S47) : ∀ d i, okSs l i d = true → ∀ j, i ≤ j → j < i + d → okS (rd_T47 l (j : Int)) = true := by
  intro d
  induction d with
  | zero => intro i _ j h1 h2; omega
  | succ d ih =>
    intro i h j h1 h2
    simp only [okSs, Bool.and_eq_true] at h
    by_cases hj : j = i
    · subst hj
      have := h.1
      simp only [stepS, Bool.and_eq_true] at this
      exact this.1
    · exact ih (i + 1) h.2 j (by omega) (by omega)
theorem record_facts (a b c : Int) (l : List S47) (hl : l.length ≤ 1048576) (k : Nat) (hk : 2 * l.length + 2 < k) (h : spec_RecordOk.f k a b c l = some true) : (1 ≤ a ∧ a ≤ 3) ∧ (1 ≤ b ∧ b ≤ 1000000) ∧ (0 ≤ c ∧ c ≤ 5) ∧ l.length ≤ 12 ∧ okSs l 0 l.length = true := by
  simp only [spec_RecordOk.f, spec_l1Id.f, spec_l1Region.f, in_, spec_sets l hl k hk, Option.bind_some] at h
  by_cases h1 : 1 ≤ a ∧ a ≤ 3
  · by_cases h2 : 1 ≤ b ∧ b ≤ 1000000
    · by_cases h3 : 0 ≤ c ∧ c ≤ 5
      · by_cases h4 : (l.length : Int) ≥ 1
        · by_cases h5 : (l.length : Int) ≤ 12
          · by_cases h7 : okSs l 0 l.length = true
            · exact ⟨h1, h2, h3, by omega, h7⟩
            · simp [h1, h2, h3, h4, h5, h7] at h
          · simp only [decide_eq_true h1, decide_eq_true h2, decide_eq_true h3, if_pos h4, if_neg h5] at h
            simp at h
        · simp only [decide_eq_true h1, decide_eq_true h2, decide_eq_true h3, if_neg h4] at h
          simp at h
      · simp [h1, h2, h3] at h
    · simp [h1, h2] at h
  · simp [h1] at h
def bt (l : List UInt8) : ByteArray := ⟨l.toArray⟩
theorem bt_append (a b : List UInt8) : bt a ++ bt b = bt (a ++ b) := by
  apply ByteArray.ext
  rw [ByteArray.data_append]
  simp [bt]
theorem bt_size (l : List UInt8) : (bt l).size = l.length := by simp [bt, ByteArray.size]
theorem bt_data (l : List UInt8) : (bt l).data.toList = l := by simp [bt]
theorem bt_toList (l : List UInt8) : (bt l).toList = l := by rw [Go.Lib.toList_data, bt_data]
theorem digit_of (x : Int) (h : x.natAbs ≤ 1000000000) : (if Int.tmod x 10 < 0 then [(wrap64 (48 + (wrap64 (-(Int.tmod x 10))))) % 256] else [(wrap64 (48 + (Int.tmod x 10))) % 256]) = ([((48 + x.natAbs % 10 : Nat) : Int)] : List Int) := by
  have e : (Int.tmod x 10).natAbs = x.natAbs % 10 := by rw [Int.natAbs_tmod]; rfl
  by_cases h0 : Int.tmod x 10 < 0
  · rw [if_pos h0, wrap_of (x := -(Int.tmod x 10)) (by omega) (by omega), wrap_of (by omega) (by omega)]
    congr 1
    omega
  · rw [if_neg h0, wrap_of (by omega) (by omega)]
    congr 1
    omega
def head (b : Bool) : List UInt8 := if b then [45] else []
theorem l2_loop (neg : Bool) : ∀ (m : Nat) (x : Int) (acc : List UInt8) (k : Nat), x.natAbs = m → m ≤ 1000000000 → acc ≠ [] → acc.length + 2 * m ≤ 9000000000 → 2 * m + 4 < k →
    spec_l2Int.l0 k x (bt acc) neg = some (bt (head neg ++ ((if m = 0 then [] else Go.Lib.decDigits m) ++ acc))) := by
  intro m
  induction m using Nat.strongRecOn with
  | _ m ih =>
    intro x acc k hx hm ha hs hk
    obtain ⟨k, rfl⟩ : ∃ z, k = z + 1 + 1 := ⟨k - 2, by omega⟩
    simp only [spec_l2Int.l0, bt_toList]
    rw [if_neg ha]
    simp only [spec_l2Int.j1]
    by_cases h0 : m = 0
    · have e0 : x = 0 := by omega
      subst e0
      rw [if_neg (show ¬ ((0 : Int) != 0) = true by simp), if_pos h0, List.nil_append]
      cases neg
      · rfl
      · rw [if_pos rfl, if_pos (by rw [bt_size]; omega)]
        show some (bt [45] ++ bt acc) = _
        rw [bt_append]; rfl
    · have hne : (x != 0) = true := by simp; omega
      rw [if_pos hne, if_neg h0]
      have e1 : (Int.tdiv x 10).natAbs = m / 10 := by rw [Int.natAbs_tdiv, hx]; rfl
      have ew : wrap64 (Int.tdiv x 10) = Int.tdiv x 10 := wrap_of (by omega) (by omega)
      have es : strOfNums [((48 + m % 10 : Nat) : Int)] = bt [UInt8.ofNat (48 + m % 10)] := by simp only [strOfNums, bt, List.map_cons, List.map_nil, Int.toNat_natCast]
      have hd := digit_of x (by omega)
      rw [hx] at hd
      have rest := ih (m / 10) (by omega) (Int.tdiv x 10) (UInt8.ofNat (48 + m % 10) :: acc) (k) e1 (by omega) (by simp) (by simp; omega) (by omega)
      have fin : (if m / 10 = 0 then [] else Go.Lib.decDigits (m / 10)) ++ (UInt8.ofNat (48 + m % 10) :: acc) = Go.Lib.decDigits m ++ acc := by
        rw [Go.Lib.decDigits.eq_def m]
        by_cases hs : m < 10
        · have : m / 10 = 0 := by omega
          have e2 : m % 10 = m := by omega
          rw [if_pos this, dif_pos hs, e2]; rfl
        · have : ¬ m / 10 = 0 := by omega
          rw [if_neg this, dif_neg hs, List.append_assoc]; rfl
      rw [fin] at rest
      by_cases hn : Int.tmod x 10 < 0
      · rw [if_pos hn] at hd
        rw [if_pos hn]
        simp only [Option.bind_some, hd, es, ew]
        rw [if_pos (by rw [bt_size, bt_size]; simp; omega), bt_append]
        exact rest
      · rw [if_neg hn] at hd
        rw [if_neg hn]
        simp only [Option.bind_some, hd, es, ew]
        rw [if_pos (by rw [bt_size, bt_size]; simp; omega), bt_append]
        exact rest
theorem l2Int_ok (n : Int) (h : n.natAbs ≤ 1000000000) (k : Nat) (hk : 2 * n.natAbs + 10 < k) : spec_l2Int.f k n = some (bt (Go.Lib.itoa n)) := by
  obtain ⟨k, rfl⟩ : ∃ z, k = z + 1 + 1 := ⟨k - 2, by omega⟩
  obtain ⟨m, hm⟩ : ∃ m, n.natAbs = m := ⟨_, rfl⟩
  rw [hm] at h hk
  have hd := digit_of n (by omega)
  rw [hm] at hd
  have e1 : (Int.tdiv n 10).natAbs = m / 10 := by rw [Int.natAbs_tdiv, hm]; rfl
  have ew : wrap64 (Int.tdiv n 10) = Int.tdiv n 10 := wrap_of (by omega) (by omega)
  have es : strOfNums [((48 + m % 10 : Nat) : Int)] = bt [UInt8.ofNat (48 + m % 10)] := by simp only [strOfNums, bt, List.map_cons, List.map_nil, Int.toNat_natCast]
  have rest := l2_loop (decide (n < 0)) (m / 10) (Int.tdiv n 10) [UInt8.ofNat (48 + m % 10)] k e1 (by omega) (by simp) (by simp; omega) (by omega)
  have fin : (if m / 10 = 0 then [] else Go.Lib.decDigits (m / 10)) ++ [UInt8.ofNat (48 + m % 10)] = Go.Lib.decDigits m := by
    rw [Go.Lib.decDigits.eq_def m]
    by_cases hs : m < 10
    · have : m / 10 = 0 := by omega
      have e2 : m % 10 = m := by omega
      rw [if_pos this, dif_pos hs, e2]; rfl
    · have : ¬ m / 10 = 0 := by omega
      rw [if_neg this, dif_neg hs]
  rw [fin] at rest
  have top : head (decide (n < 0)) ++ Go.Lib.decDigits m = Go.Lib.itoa n := by
    unfold head Go.Lib.itoa
    by_cases hn : n < 0
    · rw [if_pos (by simpa using hn), if_pos hn, hm]; rfl
    · rw [if_neg (by simpa using hn), if_neg hn, show n.toNat = m by omega]; rfl
  rw [top] at rest
  have e0 : (⟨#[]⟩ : ByteArray) = bt [] := rfl
  simp only [spec_l2Int.f, spec_l2Int.l0, e0, bt_toList, if_true, spec_l2Int.j1]
  by_cases hn : Int.tmod n 10 < 0
  · rw [if_pos hn] at hd
    rw [if_pos hn]
    simp only [Option.bind_some, hd, es, ew]
    rw [if_pos (by rw [bt_size, bt_size]; simp), bt_append]
    exact rest
  · rw [if_neg hn] at hd
    rw [if_neg hn]
    simp only [Option.bind_some, hd, es, ew]
    rw [if_pos (by rw [bt_size, bt_size]; simp), bt_append]
    exact rest
theorem decimal_ok (n : Int) (h : n.natAbs ≤ 1000000000) : impl_decimal.f n = some (bt (Go.Lib.itoa n)) := by
  unfold impl_decimal.f
  rw [if_pos (by omega), if_pos (by omega)]
  rfl
theorem itoa_len (n : Int) (h : n.natAbs ≤ 1000000000) : (Go.Lib.itoa n).length ≤ 21 := by
  unfold Go.Lib.itoa
  by_cases hn : n < 0
  · rw [if_pos hn, List.length_cons, Go.Lib.decDigits_length]
    have := Go.Lib.nDigits_le20 n.natAbs (by omega)
    omega
  · rw [if_neg hn, Go.Lib.decDigits_length]
    have := Go.Lib.nDigits_le20 n.toNat (by omega)
    omega
def J (ws : List ByteArray) : List UInt8 := Go.Lib.join (ws.map (·.data.toList)) [32]
theorem J_one (x : ByteArray) : J [x] = x.data.toList := Go.Lib.join_one _ _
theorem J_snoc (ws : List ByteArray) (x : List UInt8) (h : ws ≠ []) : J (ws ++ [bt x]) = J ws ++ ([32] ++ x) := by
  cases ws with
  | nil => exact absurd rfl h
  | cons y r => simp [J, Go.Lib.join_cons, Go.Lib.joinTail, bt_data]
theorem J_four (ws : List ByteArray) (a b c d : List UInt8) (h : ws ≠ []) : J (ws ++ [bt a, bt b, bt c, bt d]) = J ws ++ ([32] ++ a ++ [32] ++ b ++ [32] ++ c ++ [32] ++ d) := by
  have e : ws ++ [bt a, bt b, bt c, bt d] = (((ws ++ [bt a]) ++ [bt b]) ++ [bt c]) ++ [bt d] := by simp
  rw [e, J_snoc _ _ (by simp), J_snoc _ _ (by simp), J_snoc _ _ (by simp), J_snoc _ _ h]
  simp
def uw (b : Bool) : List UInt8 := if b = true then [49] else [48]
def w4 (s : S47) : List ByteArray := [bt (Go.Lib.itoa s.f1), bt (Go.Lib.itoa s.f2), bt (uw s.f3), bt (Go.Lib.itoa s.f4)]
theorem okS_small {x : S47} (h : okS x = true) : x.f1.natAbs ≤ 1000000000 ∧ x.f2.natAbs ≤ 1000000000 ∧ x.f4.natAbs ≤ 1000000000 := by
  simp only [okS, Bool.and_eq_true, decide_eq_true_eq] at h
  omega
theorem w4_len {x : S47} (h : okS x = true) : ([32] ++ Go.Lib.itoa x.f1 ++ [32] ++ Go.Lib.itoa x.f2 ++ [32] ++ uw x.f3 ++ [32] ++ Go.Lib.itoa x.f4).length ≤ 90 := by
  obtain ⟨h1, h2, h3⟩ := okS_small h
  have a := itoa_len _ h1
  have b := itoa_len _ h2
  have c := itoa_len _ h3
  have u : (uw x.f3).length = 1 := by unfold uw; split <;> rfl
  simp only [List.length_append, List.length_singleton, u]
  omega
theorem spec_show (a b c : Int) (l : List S47) (W : List ByteArray) (hW : W ≠ []) (hl : l.length ≤ 12) (hok : ∀ x ∈ l, okS x = true) : ∀ d i k (V : List ByteArray), i + d = l.length → V = W ++ (l.take i).flatMap w4 → (J V).length ≤ 90 + 90 * i → 2000000100 + d < k →
    spec_l2Show.l0 k (bt (J V)) (i : Int) a b c l = some (bt (J (W ++ l.flatMap w4))) := by
  intro d
  induction d with
  | zero =>
    intro i k V hd hV hs hk
    obtain ⟨k, rfl⟩ : ∃ z, k = z + 1 := ⟨k - 1, by omega⟩
    simp only [spec_l2Show.l0]
    rw [if_neg (by omega), hV, List.take_of_length_le (by omega)]
  | succ d ih =>
    intro i k V hd hV hs hk
    obtain ⟨k, rfl⟩ : ∃ z, k = z + 1 := ⟨k - 1, by omega⟩
    have hi : i < l.length := by omega
    have hx := hok _ (List.getElem_mem hi)
    obtain ⟨b1, b2, b3⟩ := okS_small hx
    have hlen := w4_len hx
    have hVn : V ≠ [] := by rw [hV]; simp [hW]
    have hV' : V ++ w4 l[i] = W ++ (l.take (i + 1)).flatMap w4 := by rw [hV, List.take_succ_eq_append_getElem hi, List.flatMap_append]; simp
    have hJ := J_four V (Go.Lib.itoa l[i].f1) (Go.Lib.itoa l[i].f2) (uw l[i].f3) (Go.Lib.itoa l[i].f4) hVn
    have hs' : (J (V ++ w4 l[i])).length ≤ 90 + 90 * (i + 1) := by
      show (J (V ++ [bt (Go.Lib.itoa l[i].f1), bt (Go.Lib.itoa l[i].f2), bt (uw l[i].f3), bt (Go.Lib.itoa l[i].f4)])).length ≤ _
      rw [hJ, List.length_append]; omega
    have go := ih (i + 1) k (V ++ w4 l[i]) (by omega) hV' hs' (by omega)
    rw [show ((i + 1 : Nat) : Int) = (i : Int) + 1 from by omega] at go
    have e1 := l2Int_ok l[i].f1 b1 k (by omega)
    have e2 := l2Int_ok l[i].f2 b2 k (by omega)
    have e4 := l2Int_ok l[i].f4 b3 k (by omega)
    have la := itoa_len _ b1
    have lb := itoa_len _ b2
    have lc := itoa_len _ b3
    have sp : (⟨#[32]⟩ : ByteArray) = bt [32] := rfl
    have s1 : (⟨#[32, 49, 32]⟩ : ByteArray) = bt [32, 49, 32] := rfl
    have s0 : (⟨#[32, 48, 32]⟩ : ByteArray) = bt [32, 48, 32] := rfl
    simp only [spec_l2Show.l0]
    rw [if_pos (show (i : Int) < (l.length : Int) by omega), if_pos (show 0 ≤ (i : Int) by omega), rd47_get hi, wrap_of (x := (i : Int) + 1) (by omega) (by omega)]
    simp only [e1, e2, e4, Option.bind_some, sp, s1, s0, bt_append, bt_size, List.length_append, List.length_cons, List.length_nil]
    cases hu : l[i].f3 with
    | true =>
      rw [if_pos rfl, if_pos (by omega), if_pos (by omega), if_pos (by omega), if_pos (by omega), if_pos (by omega), if_pos (by omega)]
      have : J (V ++ w4 l[i]) = J V ++ [32] ++ Go.Lib.itoa l[i].f1 ++ [32] ++ Go.Lib.itoa l[i].f2 ++ [32, 49, 32] ++ Go.Lib.itoa l[i].f4 := by
        show J (V ++ [bt (Go.Lib.itoa l[i].f1), bt (Go.Lib.itoa l[i].f2), bt (uw l[i].f3), bt (Go.Lib.itoa l[i].f4)]) = _
        rw [hJ, hu]; simp [uw]
      rw [this] at go
      exact go
    | false =>
      rw [if_neg (by simp), if_pos (by omega), if_pos (by omega), if_pos (by omega), if_pos (by omega), if_pos (by omega), if_pos (by omega)]
      have : J (V ++ w4 l[i]) = J V ++ [32] ++ Go.Lib.itoa l[i].f1 ++ [32] ++ Go.Lib.itoa l[i].f2 ++ [32, 48, 32] ++ Go.Lib.itoa l[i].f4 := by
        show J (V ++ [bt (Go.Lib.itoa l[i].f1), bt (Go.Lib.itoa l[i].f2), bt (uw l[i].f3), bt (Go.Lib.itoa l[i].f4)]) = _
        rw [hJ, hu]; simp [uw]
      rw [this] at go
      exact go
theorem impl_show (l : List S47) (W : List ByteArray) (hW : W.length = 4) (hl : l.length ≤ 12) (hok : ∀ x ∈ l, okS x = true) (hJ : (J (W ++ l.flatMap w4)).length ≤ 10000) : ∀ d i k (V : List ByteArray), i + d = l.length → V = W ++ (l.take i).flatMap w4 → V.length = 4 + 4 * i → d < k →
    impl_showRecord.l0 k V l (l.length : Int) (i : Int) = some (bt (J (W ++ l.flatMap w4))) := by
  intro d
  induction d with
  | zero =>
    intro i k V hd hV hs hk
    obtain ⟨k, rfl⟩ : ∃ z, k = z + 1 := ⟨k - 1, by omega⟩
    simp only [impl_showRecord.l0]
    rw [if_neg (by omega)]
    have e : V = W ++ l.flatMap w4 := by rw [hV, List.take_of_length_le (by omega)]
    subst e
    unfold strings_Join.f
    rw [if_pos (by omega), if_pos (by show (J _).length ≤ _; omega)]
    rfl
  | succ d ih =>
    intro i k V hd hV hs hk
    obtain ⟨k, rfl⟩ : ∃ z, k = z + 1 := ⟨k - 1, by omega⟩
    have hi : i < l.length := by omega
    have hx := hok _ (List.getElem_mem hi)
    obtain ⟨b1, b2, b3⟩ := okS_small hx
    have hV' : V ++ w4 l[i] = W ++ (l.take (i + 1)).flatMap w4 := by rw [hV, List.take_succ_eq_append_getElem hi, List.flatMap_append]; simp
    have go := ih (i + 1) k (V ++ w4 l[i]) (by omega) hV' (by rw [List.length_append, hs]; simp [w4]; omega) (by omega)
    rw [show ((i + 1 : Nat) : Int) = (i : Int) + 1 from by omega] at go
    have s1 : (⟨#[49]⟩ : ByteArray) = bt [49] := rfl
    have s0 : (⟨#[48]⟩ : ByteArray) = bt [48] := rfl
    simp only [impl_showRecord.l0]
    rw [if_pos (show (i : Int) < (l.length : Int) by omega), if_pos (show 0 ≤ (i : Int) by omega), if_pos (show (i : Int) < (l.length : Int) by omega), rd47_get hi, wrap_of (x := (i : Int) + 1) (by omega) (by omega)]
    simp only [decimal_ok _ b1, decimal_ok _ b2, decimal_ok _ b3, Option.bind_some, s1, s0, List.length_cons, List.length_nil]
    cases hu : l[i].f3 with
    | true =>
      rw [if_pos rfl, if_pos (by omega)]
      simp only [w4, hu, uw, if_true] at go
      exact go
    | false =>
      rw [if_neg (by simp), if_pos (by omega)]
      simp only [w4, hu, uw] at go
      rw [if_neg (by simp)] at go
      exact go
theorem joined_len : ∀ (l : List S47) (W : List ByteArray), W ≠ [] → (∀ x ∈ l, okS x = true) → (J (W ++ l.flatMap w4)).length ≤ (J W).length + 90 * l.length
  | [], W, _, _ => by simp
  | x :: r, W, hW, h => by
    have h2 := w4_len (h x (by simp))
    have h1 := joined_len r (W ++ w4 x) (by simp [hW]) (fun y hy => h y (by simp [hy]))
    have e : W ++ (x :: r).flatMap w4 = (W ++ w4 x) ++ r.flatMap w4 := by simp
    have e2 : J (W ++ w4 x) = J W ++ ([32] ++ Go.Lib.itoa x.f1 ++ [32] ++ Go.Lib.itoa x.f2 ++ [32] ++ uw x.f3 ++ [32] ++ Go.Lib.itoa x.f4) := J_four W _ _ _ _ hW
    rw [e2, List.length_append] at h1
    rw [e]
    simp only [List.length_cons]
    omega
theorem shown_both (a b c : Int) (l : List S47) (ha : 1 ≤ a ∧ a ≤ 3) (hb : 1 ≤ b ∧ b ≤ 1000000) (hc : 0 ≤ c ∧ c ≤ 5) (hl : l.length ≤ 12) (hs : okSs l 0 l.length = true) (k : Nat) (hk : 3000000000 < k) : ∃ s : List UInt8, spec_l2Show.f k a b c l = some (bt s) ∧ impl_showRecord.f k a b c l = some (bt s) ∧ s.length ≤ 2000 := by
  have hok : ∀ x ∈ l, okS x = true := fun x hx => by
    obtain ⟨j, hj, rfl⟩ := List.mem_iff_getElem.1 hx
    have := okSs_each l l.length 0 hs j (by omega) (by omega)
    rwa [rd47_get hj] at this
  have la := itoa_len a (by omega)
  have lb := itoa_len b (by omega)
  have lc := itoa_len c (by omega)
  have ll := itoa_len (l.length : Int) (by omega)
  obtain ⟨W, hW⟩ : ∃ W, W = [bt (Go.Lib.itoa a), bt (Go.Lib.itoa b), bt (Go.Lib.itoa c), bt (Go.Lib.itoa (l.length : Int))] := ⟨_, rfl⟩
  have hJ : J W = Go.Lib.itoa a ++ [32] ++ Go.Lib.itoa b ++ [32] ++ Go.Lib.itoa c ++ [32] ++ Go.Lib.itoa (l.length : Int) := by
    have e : W = (([bt (Go.Lib.itoa a)] ++ [bt (Go.Lib.itoa b)]) ++ [bt (Go.Lib.itoa c)]) ++ [bt (Go.Lib.itoa (l.length : Int))] := by rw [hW]; rfl
    rw [e, J_snoc _ _ (by simp), J_snoc _ _ (by simp), J_snoc _ _ (by simp), J_one, bt_data]
    simp
  have hWn : W ≠ [] := by rw [hW]; simp
  have hJl : (J W).length ≤ 90 := by rw [hJ]; simp only [List.length_append, List.length_singleton]; omega
  have hall := joined_len l W hWn hok
  refine ⟨J (W ++ l.flatMap w4), ?_, ?_, by omega⟩
  · have sp : (⟨#[32]⟩ : ByteArray) = bt [32] := rfl
    have go := spec_show a b c l W hWn hl hok l.length 0 k W (by omega) (by simp) (by omega) (by omega)
    rw [show ((0 : Nat) : Int) = 0 from rfl] at go
    simp only [spec_l2Show.f, l2Int_ok a (by omega) k (by omega), l2Int_ok b (by omega) k (by omega), l2Int_ok c (by omega) k (by omega), l2Int_ok (l.length : Int) (by omega) k (by omega), Option.bind_some, sp, bt_append, bt_size, List.length_append, List.length_singleton]
    rw [if_pos (by omega), if_pos (by omega), if_pos (by omega), if_pos (by omega), if_pos (by omega), if_pos (by omega), ← hJ]
    exact go
  · have go := impl_show l W (by rw [hW]; rfl) hl hok (by omega) l.length 0 k W (by omega) (by simp) (by rw [hW]; rfl) (by omega)
    rw [show ((0 : Nat) : Int) = 0 from rfl] at go
    simp only [impl_showRecord.f, decimal_ok a (by omega), decimal_ok b (by omega), decimal_ok c (by omega), impl_Set_36.f, decimal_ok (l.length : Int) (by omega), Option.bind_some]
    rw [← hW]
    exact go
theorem FnExactShowRecord : SFnExactShowRecord.Pure := by
  intro a b c l _ _ _ hl _
  obtain ⟨K, hK⟩ : ∃ K, 4000000000 < K := ⟨_, Nat.lt_succ_self _⟩
  refine ⟨K, ?_⟩
  unfold laws_FnExactShowRecord.f
  simp only [laws_szRecord.f, szSetS_ok l 1048576 (by omega) (by omega) hl, Option.bind_some]
  by_cases h : (1048576 : Int) < (l.length : Int)
  · rw [if_pos h, if_pos (by omega)]
    simp
  rw [if_neg h, if_neg (by omega)]
  have hm : (l.map toS).length = l.length := List.length_map ..
  obtain ⟨r, e1, e2⟩ := record_ok a b c (l.map toS) (by omega) K (by omega)
  have er : laws_eqRecord.f K a b c (l.map toS) a b c (l.map toS) = some true := by
    simp [laws_eqRecord.f, eqSetS_ok (l.map toS) (by omega) K (by omega)]
  have both : ∃ s, spec_ShowRecord.f K a b c (l.map toS) = some s ∧ impl_ShowRecord.f K a b c (l.map toS) = some s := by
    cases r with
    | false => exact ⟨⟨#[]⟩, by simp [spec_ShowRecord.f, e1], by simp [impl_ShowRecord.f, e2]⟩
    | true =>
      obtain ⟨f1, f2, f3, f4, f5⟩ := record_facts a b c (l.map toS) (by omega) K (by omega) e1
      obtain ⟨s, g1, g2, _⟩ := shown_both a b c (l.map toS) f1 f2 f3 f4 f5 K (by omega)
      exact ⟨bt s, by simp [spec_ShowRecord.f, e1, g1], by simp [impl_ShowRecord.f, e2, g2]⟩
  obtain ⟨s, g1, g2⟩ := both
  simp only [laws_toRecord.f, toSetS_ok l (by omega) K (by omega), Option.bind_some, g1, g2, er, if_true]
  rw [if_neg (by omega)]
end Go.Proofs.YtnilfnkdgdfnnaaDoor.Pure
