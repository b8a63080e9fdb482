/- Proved: the law FnRecords answers true at every argument: the program answers as the reference, wherever the law's own guards let the argument in. Conditions: none beyond the given row's. -/
import Derived.Test.YtnilfnkdgdfnnaaGreatDoorSFnRecords
import Derived.Lib.ItoaLen
import Derived.Lib.Split
import Derived.Lib.CountLaws
import Derived.Lib.ParseIntBCases
import Derived.Lib.ParseIntBTie
import Derived.Lib.Strings
import Derived.Test.YtnilfnkdgdfnnaaGreatDoorGenRe
namespace Go.Proofs.YtnilfnkdgdfnnaaGreatDoor.Pure
open Go.RowKit Go.Proofs.YtnilfnkdgdfnnaaGreatDoor.XRe Go.Proofs.YtnilfnkdgdfnnaaGreatDoor.Opened Go.Proofs.YtnilfnkdgdfnnaaGreatDoorW.PrintWords Go.Proofs.YtnilfnkdgdfnnaaGreatDoorW.PrintLast Go.Proofs.YtnilfnkdgdfnnaaGreatDoor.SFnRecords Go.Proofs.YtnilfnkdgdfnnaaGreatDoor.Gen
set_option linter.unusedSimpArgs false
set_option linter.unusedVariables false
open Go.Proofs.YtnilfnkdgdfnnaaGreatDoor.Aid
theorem in_ (a b c : Int) : spec_l1In.f a b c = some (decide (b ≤ a ∧ a ≤ c)) := by
  unfold spec_l1In.f
  by_cases h : a ≥ b <;> simp [h]
theorem within_ (a b c : Int) : impl_within.f a b c = some (decide (b ≤ a ∧ a ≤ c)) := by
  unfold impl_within.f
  by_cases h : a ≥ b <;> simp [h]
theorem rd47_get {l : List S47} {i : Nat} (h : i < l.length) : rd_T47 l (i : Int) = l[i] := by
  unfold rd_T47
  rw [Int.toNat_natCast, List.getD_eq_getElem?_getD, List.getElem?_eq_getElem h]
  rfl
theorem rd47_set {l : List S47} {i : Nat} (h : i < l.length) (v : S47) : rd_T47 (l.set i v) (i : Int) = v := by
  rw [rd47_get (by rw [List.length_set]; exact h)]
  simp
def okS (x : S47) : Bool := decide (0 ≤ x.f0 ∧ x.f0 ≤ 5) && (decide (0 ≤ x.f1 ∧ x.f1 ≤ 5) && (decide (-1000000000 ≤ x.f2 ∧ x.f2 ≤ 1000000000) && decide (0 ≤ x.f4 ∧ x.f4 ≤ 999999)))
theorem spec_set (x : S47) : spec_SetOk.f x.f0 x.f1 x.f2 x.f3 x.f4 = some (okS x) := by
  simp only [spec_SetOk.f, spec_l1Region.f, spec_l1Slot.f, spec_l1Value.f, in_, Option.bind_some, okS]
  by_cases h1 : 0 ≤ x.f0 ∧ x.f0 ≤ 5 <;> by_cases h2 : 0 ≤ x.f1 ∧ x.f1 ≤ 5 <;> by_cases h3 : -1000000000 ≤ x.f2 ∧ x.f2 ≤ 1000000000 <;> simp [h1, h2, h3]
theorem impl_set (x : S47) : impl_isSet.f x.f0 x.f1 x.f2 x.f3 x.f4 = some (okS x) := by
  simp only [impl_isSet.f, impl_isRegion.f, impl_isSlot.f, impl_isValue.f, within_, Option.bind_some, okS]
  by_cases h1 : 0 ≤ x.f0 ∧ x.f0 ≤ 5 <;> by_cases h2 : 0 ≤ x.f1 ∧ x.f1 ≤ 5 <;> by_cases h3 : -1000000000 ≤ x.f2 ∧ x.f2 ≤ 1000000000 <;> simp [h1, h2, h3]
/-- The set at place i is right, and stands rightly behind the one ahead of it. -/
def stepS (l : List S47) (i : Nat) : Bool := okS (rd_T47 l (i : Int)) && (decide (i = 0) || (decide ((rd_T47 l (i : Int)).f0 = (rd_T47 l 0).f0) && decide ((rd_T47 l ((i : Int) - 1)).f1 < (rd_T47 l (i : Int)).f1)))
def okSs (l : List S47) : Nat → Nat → Bool
  | _, 0 => true
  | i, d + 1 => stepS l i && okSs l (i + 1) d
theorem spec_sets_from (l : List S47) (hl : l.length ≤ 1048576) : ∀ d i k, i + d = l.length → 2 * d + 2 < k → spec_l2Sets.l0 k l (i : Int) = some (okSs l i d) := by
  intro d
  induction d with
  | zero =>
    intro i k hd hk
    obtain ⟨k, rfl⟩ : ∃ q, k = q + 1 := ⟨k - 1, by omega⟩
    simp only [spec_l2Sets.l0]
    rw [if_neg (by omega)]
    rfl
  | succ d ih =>
    intro i k hd hk
    obtain ⟨k, rfl⟩ : ∃ q, k = q + 1 := ⟨k - 1, by omega⟩
    have e := ih (i + 1) k (by omega) (by omega)
    rw [show ((i + 1 : Nat) : Int) = (i : Int) + 1 from by omega] at e
    simp only [spec_l2Sets.l0, spec_set, Option.bind_some, if_pos (show (i : Int) < (l.length : Int) by omega), if_pos (show (0 : Int) ≤ (i : Int) by omega), wrap_of (x := (i : Int) + 1) (by omega) (by omega), e, okSs, stepS]
    by_cases h0 : (i : Int) > 0
    · have h0' : ¬ i = 0 := by omega
      simp only [if_pos h0, wrap_of (x := (i : Int) - 1) (by omega) (by omega), if_pos (show 0 ≤ (i : Int) - 1 by omega), if_pos (show (i : Int) - 1 < (l.length : Int) by omega), if_pos (show (0 : Int) < (l.length : Int) by omega)]
      by_cases a2 : (rd_T47 l (i : Int)).f1 ≤ (rd_T47 l ((i : Int) - 1)).f1
      · have a2' : ¬ (rd_T47 l ((i : Int) - 1)).f1 < (rd_T47 l (i : Int)).f1 := by omega
        cases okS (rd_T47 l (i : Int)) <;> simp [h0', a2, a2']
      · have a2' : (rd_T47 l ((i : Int) - 1)).f1 < (rd_T47 l (i : Int)).f1 := by omega
        by_cases a3 : (rd_T47 l (i : Int)).f0 = (rd_T47 l 0).f0 <;> cases okS (rd_T47 l (i : Int)) <;> simp [h0', a2, a2', a3]
    · have h0' : i = 0 := by omega
      rw [if_neg h0]
      cases okS (rd_T47 l (i : Int)) <;> simp [h0']
theorem impl_sets_from (l : List S47) (hl : l.length ≤ 1048576) : ∀ d i k, i + d = l.length → 2 * d + 2 < k → impl_areSets.l0 k l l (l.length : Int) (i : Int) = some (okSs l i d) := by
  intro d
  induction d with
  | zero =>
    intro i k hd hk
    obtain ⟨k, rfl⟩ : ∃ q, k = q + 1 := ⟨k - 1, by omega⟩
    simp only [impl_areSets.l0]
    rw [if_neg (by omega)]
    rfl
  | succ d ih =>
    intro i k hd hk
    obtain ⟨k, rfl⟩ : ∃ q, k = q + 1 := ⟨k - 1, by omega⟩
    have e := ih (i + 1) k (by omega) (by omega)
    rw [show ((i + 1 : Nat) : Int) = (i : Int) + 1 from by omega] at e
    simp only [impl_areSets.l0, impl_set, Option.bind_some, if_pos (show (i : Int) < (l.length : Int) by omega), if_pos (show (0 : Int) ≤ (i : Int) by omega), if_pos (show (0 : Int) < (l.length : Int) by omega), wrap_of (x := (i : Int) + 1) (by omega) (by omega), e, okSs, stepS]
    by_cases h0 : (i : Int) > 0
    · have h0' : ¬ i = 0 := by omega
      simp only [if_pos h0, wrap_of (x := (i : Int) - 1) (by omega) (by omega), if_pos (show 0 ≤ (i : Int) - 1 by omega), if_pos (show (i : Int) - 1 < (l.length : Int) by omega)]
      by_cases a2 : (rd_T47 l (i : Int)).f1 ≤ (rd_T47 l ((i : Int) - 1)).f1
      · have a2' : ¬ (rd_T47 l ((i : Int) - 1)).f1 < (rd_T47 l (i : Int)).f1 := by omega
        by_cases a3 : (rd_T47 l (i : Int)).f0 = (rd_T47 l 0).f0 <;> cases okS (rd_T47 l (i : Int)) <;> simp [h0', a2, a2', a3]
      · have a2' : (rd_T47 l ((i : Int) - 1)).f1 < (rd_T47 l (i : Int)).f1 := by omega
        by_cases a3 : (rd_T47 l (i : Int)).f0 = (rd_T47 l 0).f0 <;> cases okS (rd_T47 l (i : Int)) <;> simp [h0', a2, a2', a3]
    · have h0' : i = 0 := by omega
      subst h0'
      rw [if_neg h0]
      cases okS (rd_T47 l ((0 : Nat) : Int)) <;> simp
theorem spec_sets (l : List S47) (hl : l.length ≤ 1048576) (k : Nat) (hk : 2 * l.length + 2 < k) : spec_l2Sets.f k l = some (okSs l 0 l.length) := spec_sets_from l hl l.length 0 k (by omega) hk
theorem impl_sets (l : List S47) (hl : l.length ≤ 1048576) (k : Nat) (hk : 2 * l.length + 2 < k) : impl_areSets.f k l = some (okSs l 0 l.length) := impl_sets_from l hl l.length 0 k (by omega) hk
theorem okSs_at (l : List S47) : ∀ d i, okSs l i d = true → ∀ j, i ≤ j → j < i + d → okS (rd_T47 l (j : Int)) = true := by
  intro d
  induction d with
  | zero => intro i _ j h1 h2; omega
  | succ d ih =>
    intro i h j h1 h2
    simp only [okSs, Bool.and_eq_true] at h
    by_cases hj : j = i
    · subst hj
      have := h.1
      simp only [stepS, Bool.and_eq_true] at this
      exact this.1
    · exact ih (i + 1) h.2 j (by omega) (by omega)
theorem okS_slot {x : S47} (h : okS x = true) : 0 ≤ x.f1 ∧ x.f1 ≤ 5 := by
  simp only [okS, Bool.and_eq_true, decide_eq_true_eq] at h
  exact h.2.1
theorem okS_ver {x : S47} (h : okS x = true) : 0 ≤ x.f4 ∧ x.f4 ≤ 999999 := by
  simp only [okS, Bool.and_eq_true, decide_eq_true_eq] at h
  exact h.2.2.2
theorem likeSets_ok (l : List S47) (hl : l.length ≤ 9000000000000) (k : Nat) (hk : l.length < k) : laws_likeSets.f k l l = some true := by
  unfold laws_likeSets.f
  rw [if_pos rfl]
  exact loop_to (fun k (s : Int) => laws_likeSets.l0 k l l s) (fun i s => s = (i : Int)) l.length 0 true
    (fun k i s hk hi hP => ⟨wrap64 (s + 1), by rw [hP, wrap_of (by omega) (by omega)]; omega, by
      show laws_likeSets.l0 (k + 1) l l s = _
      simp only [laws_likeSets.l0]
      rw [if_pos (by omega), if_pos (by omega), if_pos (by omega)]
      simp⟩)
    (fun k s _ hP => by
      show laws_likeSets.l0 (k + 1) l l s = _
      simp only [laws_likeSets.l0]
      rw [if_neg (by omega)]) 0 k 0 (by omega) (by omega) rfl
theorem okSs_reg (l : List S47) : ∀ d i, okSs l i d = true → ∀ j, i ≤ j → j < i + d → (rd_T47 l (j : Int)).f0 = (rd_T47 l 0).f0 := by
  intro d
  induction d with
  | zero => intro i _ j h1 h2; omega
  | succ d ih =>
    intro i h j h1 h2
    simp only [okSs, Bool.and_eq_true] at h
    by_cases hj : j = i
    · subst hj
      have := h.1
      simp only [stepS, Bool.and_eq_true, Bool.or_eq_true, decide_eq_true_eq] at this
      rcases this.2 with h0 | h0
      · subst h0; rfl
      · exact h0.1
    · exact ih (i + 1) h.2 j (by omega) (by omega)
theorem regions (l : List S47) (q : Int) (h1 : 1 ≤ l.length) (h : okSs l 0 l.length = true) : impl_Set_31.f l q = some (!decide ((rd_T47 l 0).f0 = q)) := by
  obtain ⟨r, e, hr⟩ := idx_total (fun x : S47 => impl_isRecord_1.f x.f0 x.f1 x.f2 x.f3 x.f4 q) (fun x => x.f0 != q) l (fun x _ => rfl) 0
  simp only [impl_Set_31.f, e, Option.bind_some, hr]
  have hall := okSs_reg l l.length 0 h
  by_cases hq : (rd_T47 l 0).f0 = q
  · have : l.any (fun x => x.f0 != q) = false := by
      rw [List.any_eq_false]
      intro x hx
      obtain ⟨j, hj, rfl⟩ := List.mem_iff_getElem.1 hx
      have := hall j (by omega) (by omega)
      rw [rd47_get hj] at this
      simp [this, hq]
    simp [this, hq]
  · have : l.any (fun x => x.f0 != q) = true := by
      rw [List.any_eq_true]
      have h0 : 0 < l.length := by omega
      refine ⟨l[0], List.getElem_mem h0, ?_⟩
      have := rd47_get h0
      rw [show ((0 : Nat) : Int) = 0 from rfl] at this
      rw [this] at hq
      simp [hq]
    simp [this, hq]
theorem record_ok (a b c : Int) (l : List S47) (hl : l.length ≤ 1048576) (k : Nat) (hk : 2 * l.length + 2 < k) : ∃ r, spec_RecordOk.f k a b c l = some r ∧ impl_isRecord.f k a b c l = some r := by
  simp only [spec_RecordOk.f, impl_isRecord.f, spec_l1Id.f, spec_l1Region.f, impl_isId.f, impl_isRegion.f, impl_Set_29.f, in_, within_, spec_sets l hl k hk, impl_sets l hl k hk, Option.bind_some]
  by_cases h1 : 1 ≤ a ∧ a ≤ 3
  · by_cases h2 : 1 ≤ b ∧ b ≤ 1000000
    · by_cases h3 : 0 ≤ c ∧ c ≤ 5
      · by_cases h4 : (l.length : Int) ≥ 1
        · by_cases h5 : (l.length : Int) ≤ 12
          · have h6 : 1 ≤ (l.length : Int) ∧ (l.length : Int) ≤ 12 := ⟨h4, h5⟩
            by_cases h7 : okSs l 0 l.length = true
            · rw [regions l c (by omega) h7]
              have h8 : 0 < l.length := by omega
              by_cases h9 : (rd_T47 l 0).f0 = c <;> simp [h1, h2, h3, h4, h5, h6, h7, h8, h9]
            · simp [h1, h2, h3, h4, h5, h6, h7]
          · have h6 : ¬ (1 ≤ (l.length : Int) ∧ (l.length : Int) ≤ 12) := by omega
            simp only [decide_eq_true h1, decide_eq_true h2, decide_eq_true h3, if_pos h4, if_neg h5, decide_eq_false h6]
            simp
        · have h6 : ¬ (1 ≤ (l.length : Int) ∧ (l.length : Int) ≤ 12) := by omega
          simp only [decide_eq_true h1, decide_eq_true h2, decide_eq_true h3, if_neg h4, decide_eq_false h6]
          simp
      · simp [h1, h2, h3]
    · simp [h1, h2]
  · simp [h1]
theorem okSs_each (l : List S47) : ∀ d i, okSs l i d = true → ∀ j, i ≤ j → j < i + d → okS (rd_T47 l (j : Int)) = true := by
  intro d
  induction d with
  | zero => intro i _ j h1 h2; omega
  | succ d ih =>
    intro i h j h1 h2
    simp only [okSs, Bool.and_eq_true] at h
    by_cases hj : j = i
    · subst hj
      have := h.1
      simp only [stepS, Bool.and_eq_true] at this
      exact this.1
    · exact ih (i + 1) h.2 j (by omega) (by omega)
theorem record_facts (a b c : Int) (l : List S47) (hl : l.length ≤ 1048576) (k : Nat) (hk : 2 * l.length + 2 < k) (h : spec_RecordOk.f k a b c l = some true) : (1 ≤ a ∧ a ≤ 3) ∧ (1 ≤ b ∧ b ≤ 1000000) ∧ (0 ≤ c ∧ c ≤ 5) ∧ l.length ≤ 12 ∧ okSs l 0 l.length = true := by
  simp only [spec_RecordOk.f, spec_l1Id.f, spec_l1Region.f, in_, spec_sets l hl k hk, Option.bind_some] at h
  by_cases h1 : 1 ≤ a ∧ a ≤ 3
  · by_cases h2 : 1 ≤ b ∧ b ≤ 1000000
    · by_cases h3 : 0 ≤ c ∧ c ≤ 5
      · by_cases h4 : (l.length : Int) ≥ 1
        · by_cases h5 : (l.length : Int) ≤ 12
          · by_cases h7 : okSs l 0 l.length = true
            · exact ⟨h1, h2, h3, by omega, h7⟩
            · simp [h1, h2, h3, h4, h5, h7] at h
          · simp only [decide_eq_true h1, decide_eq_true h2, decide_eq_true h3, if_pos h4, if_neg h5] at h
            simp at h
        · simp only [decide_eq_true h1, decide_eq_true h2, decide_eq_true h3, if_neg h4] at h
          simp at h
      · simp [h1, h2, h3] at h
    · simp [h1, h2] at h
  · simp [h1] at h
def mkb (l : List UInt8) : ByteArray := ⟨l.toArray⟩
theorem bt_append (a b : List UInt8) : mkb a ++ mkb b = mkb (a ++ b) := by
  apply ByteArray.ext
  rw [ByteArray.data_append]
  simp [mkb]
theorem bt_size (l : List UInt8) : (mkb l).size = l.length := by simp [mkb, ByteArray.size]
theorem bt_data (l : List UInt8) : (mkb l).data.toList = l := by simp [mkb]
theorem bt_toList (l : List UInt8) : (mkb l).toList = l := by rw [Go.Lib.toList_data, bt_data]
theorem digit_of (x : Int) (h : x.natAbs ≤ 1000000000) : (if Int.tmod x 10 < 0 then [(wrap64 (48 + (wrap64 (-(Int.tmod x 10))))) % 256] else [(wrap64 (48 + (Int.tmod x 10))) % 256]) = ([((48 + x.natAbs % 10 : Nat) : Int)] : List Int) := by
  have e : (Int.tmod x 10).natAbs = x.natAbs % 10 := by rw [Int.natAbs_tmod]; rfl
  by_cases h0 : Int.tmod x 10 < 0
  · rw [if_pos h0, wrap_of (x := -(Int.tmod x 10)) (by omega) (by omega), wrap_of (by omega) (by omega)]
    congr 1
    omega
  · rw [if_neg h0, wrap_of (by omega) (by omega)]
    congr 1
    omega
def head (b : Bool) : List UInt8 := if b then [45] else []
theorem l2_loop (neg : Bool) : ∀ (m : Nat) (x : Int) (acc : List UInt8) (k : Nat), x.natAbs = m → m ≤ 1000000000 → acc ≠ [] → acc.length + 2 * m ≤ 9000000000 → 2 * m + 4 < k →
    spec_l2Int.l0 k x (mkb acc) neg = some (mkb (head neg ++ ((if m = 0 then [] else Go.Lib.decDigits m) ++ acc))) := by
  intro m
  induction m using Nat.strongRecOn with
  | _ m ih =>
    intro x acc k hx hm ha hs hk
    obtain ⟨k, rfl⟩ : ∃ z, k = z + 1 + 1 := ⟨k - 2, by omega⟩
    simp only [spec_l2Int.l0, bt_toList]
    rw [if_neg ha]
    simp only [spec_l2Int.j1]
    by_cases h0 : m = 0
    · have e0 : x = 0 := by omega
      subst e0
      rw [if_neg (show ¬ ((0 : Int) != 0) = true by simp), if_pos h0, List.nil_append]
      cases neg
      · rfl
      · rw [if_pos rfl, if_pos (by rw [bt_size]; omega)]
        show some (mkb [45] ++ mkb acc) = _
        rw [bt_append]; rfl
    · have hne : (x != 0) = true := by simp; omega
      rw [if_pos hne, if_neg h0]
      have e1 : (Int.tdiv x 10).natAbs = m / 10 := by rw [Int.natAbs_tdiv, hx]; rfl
      have ew : wrap64 (Int.tdiv x 10) = Int.tdiv x 10 := wrap_of (by omega) (by omega)
      have es : strOfNums [((48 + m % 10 : Nat) : Int)] = mkb [UInt8.ofNat (48 + m % 10)] := by simp only [strOfNums, mkb, List.map_cons, List.map_nil, Int.toNat_natCast]
      have hd := digit_of x (by omega)
      rw [hx] at hd
      have rest := ih (m / 10) (by omega) (Int.tdiv x 10) (UInt8.ofNat (48 + m % 10) :: acc) (k) e1 (by omega) (by simp) (by simp; omega) (by omega)
      have fin : (if m / 10 = 0 then [] else Go.Lib.decDigits (m / 10)) ++ (UInt8.ofNat (48 + m % 10) :: acc) = Go.Lib.decDigits m ++ acc := by
        rw [Go.Lib.decDigits.eq_def m]
        by_cases hs : m < 10
        · have : m / 10 = 0 := by omega
          have e2 : m % 10 = m := by omega
          rw [if_pos this, dif_pos hs, e2]; rfl
        · have : ¬ m / 10 = 0 := by omega
          rw [if_neg this, dif_neg hs, List.append_assoc]; rfl
      rw [fin] at rest
      by_cases hn : Int.tmod x 10 < 0
      · rw [if_pos hn] at hd
        rw [if_pos hn]
        simp only [Option.bind_some, hd, es, ew]
        rw [if_pos (by rw [bt_size, bt_size]; simp; omega), bt_append]
        exact rest
      · rw [if_neg hn] at hd
        rw [if_neg hn]
        simp only [Option.bind_some, hd, es, ew]
        rw [if_pos (by rw [bt_size, bt_size]; simp; omega), bt_append]
        exact rest
theorem l2Int_ok (n : Int) (h : n.natAbs ≤ 1000000000) (k : Nat) (hk : 2 * n.natAbs + 10 < k) : spec_l2Int.f k n = some (mkb (Go.Lib.itoa n)) := by
  obtain ⟨k, rfl⟩ : ∃ z, k = z + 1 + 1 := ⟨k - 2, by omega⟩
  obtain ⟨m, hm⟩ : ∃ m, n.natAbs = m := ⟨_, rfl⟩
  rw [hm] at h hk
  have hd := digit_of n (by omega)
  rw [hm] at hd
  have e1 : (Int.tdiv n 10).natAbs = m / 10 := by rw [Int.natAbs_tdiv, hm]; rfl
  have ew : wrap64 (Int.tdiv n 10) = Int.tdiv n 10 := wrap_of (by omega) (by omega)
  have es : strOfNums [((48 + m % 10 : Nat) : Int)] = mkb [UInt8.ofNat (48 + m % 10)] := by simp only [strOfNums, mkb, List.map_cons, List.map_nil, Int.toNat_natCast]
  have rest := l2_loop (decide (n < 0)) (m / 10) (Int.tdiv n 10) [UInt8.ofNat (48 + m % 10)] k e1 (by omega) (by simp) (by simp; omega) (by omega)
  have fin : (if m / 10 = 0 then [] else Go.Lib.decDigits (m / 10)) ++ [UInt8.ofNat (48 + m % 10)] = Go.Lib.decDigits m := by
    rw [Go.Lib.decDigits.eq_def m]
    by_cases hs : m < 10
    · have : m / 10 = 0 := by omega
      have e2 : m % 10 = m := by omega
      rw [if_pos this, dif_pos hs, e2]; rfl
    · have : ¬ m / 10 = 0 := by omega
      rw [if_neg this, dif_neg hs]
  rw [fin] at rest
  have top : head (decide (n < 0)) ++ Go.Lib.decDigits m = Go.Lib.itoa n := by
    unfold head Go.Lib.itoa
    by_cases hn : n < 0
    · rw [if_pos (by simpa using hn), if_pos hn, hm]; rfl
    · rw [if_neg (by simpa using hn), if_neg hn, show n.toNat = m by omega]; rfl
  rw [top] at rest
  have e0 : (⟨#[]⟩ : ByteArray) = mkb [] := rfl
  simp only [spec_l2Int.f, spec_l2Int.l0, e0, bt_toList, if_true, spec_l2Int.j1]
  by_cases hn : Int.tmod n 10 < 0
  · rw [if_pos hn] at hd
    rw [if_pos hn]
    simp only [Option.bind_some, hd, es, ew]
    rw [if_pos (by rw [bt_size, bt_size]; simp), bt_append]
    exact rest
  · rw [if_neg hn] at hd
    rw [if_neg hn]
    simp only [Option.bind_some, hd, es, ew]
    rw [if_pos (by rw [bt_size, bt_size]; simp), bt_append]
    exact rest
theorem decimal_ok (n : Int) (h : n.natAbs ≤ 1000000000) : impl_decimal.f n = some (mkb (Go.Lib.itoa n)) := by
  unfold impl_decimal.f
  rw [if_pos (by omega), if_pos (by omega)]
  rfl
theorem itoa_len (n : Int) (h : n.natAbs ≤ 1000000000) : (Go.Lib.itoa n).length ≤ 21 := by
  unfold Go.Lib.itoa
  by_cases hn : n < 0
  · rw [if_pos hn, List.length_cons, Go.Lib.decDigits_length]
    have := Go.Lib.nDigits_le20 n.natAbs (by omega)
    omega
  · rw [if_neg hn, Go.Lib.decDigits_length]
    have := Go.Lib.nDigits_le20 n.toNat (by omega)
    omega
def J (ws : List ByteArray) : List UInt8 := Go.Lib.join (ws.map (·.data.toList)) [32]
theorem J_one (x : ByteArray) : J [x] = x.data.toList := Go.Lib.join_one _ _
theorem J_snoc (ws : List ByteArray) (x : List UInt8) (h : ws ≠ []) : J (ws ++ [mkb x]) = J ws ++ ([32] ++ x) := by
  cases ws with
  | nil => exact absurd rfl h
  | cons y r => simp [J, Go.Lib.join_cons, Go.Lib.joinTail, bt_data]
theorem J_four (ws : List ByteArray) (a b c d : List UInt8) (h : ws ≠ []) : J (ws ++ [mkb a, mkb b, mkb c, mkb d]) = J ws ++ ([32] ++ a ++ [32] ++ b ++ [32] ++ c ++ [32] ++ d) := by
  have e : ws ++ [mkb a, mkb b, mkb c, mkb d] = (((ws ++ [mkb a]) ++ [mkb b]) ++ [mkb c]) ++ [mkb d] := by simp
  rw [e, J_snoc _ _ (by simp), J_snoc _ _ (by simp), J_snoc _ _ (by simp), J_snoc _ _ h]
  simp
def uw (b : Bool) : List UInt8 := if b = true then [49] else [48]
def w4 (s : S47) : List ByteArray := [mkb (Go.Lib.itoa s.f1), mkb (Go.Lib.itoa s.f2), mkb (uw s.f3), mkb (Go.Lib.itoa s.f4)]
theorem okS_small {x : S47} (h : okS x = true) : x.f1.natAbs ≤ 1000000000 ∧ x.f2.natAbs ≤ 1000000000 ∧ x.f4.natAbs ≤ 1000000000 := by
  simp only [okS, Bool.and_eq_true, decide_eq_true_eq] at h
  omega
theorem w4_len {x : S47} (h : okS x = true) : ([32] ++ Go.Lib.itoa x.f1 ++ [32] ++ Go.Lib.itoa x.f2 ++ [32] ++ uw x.f3 ++ [32] ++ Go.Lib.itoa x.f4).length ≤ 90 := by
  obtain ⟨h1, h2, h3⟩ := okS_small h
  have a := itoa_len _ h1
  have b := itoa_len _ h2
  have c := itoa_len _ h3
  have u : (uw x.f3).length = 1 := by unfold uw; split <;> rfl
  simp only [List.length_append, List.length_singleton, u]
  omega
theorem spec_show (a b c : Int) (l : List S47) (W : List ByteArray) (hW : W ≠ []) (hl : l.length ≤ 12) (hok : ∀ x ∈ l, okS x = true) : ∀ d i k (V : List ByteArray), i + d = l.length → V = W ++ (l.take i).flatMap w4 → (J V).length ≤ 90 + 90 * i → 2000000100 + d < k →
    spec_l2Show.l0 k (mkb (J V)) (i : Int) a b c l = some (mkb (J (W ++ l.flatMap w4))) := by
  intro d
  induction d with
  | zero =>
    intro i k V hd hV hs hk
    obtain ⟨k, rfl⟩ : ∃ z, k = z + 1 := ⟨k - 1, by omega⟩
    simp only [spec_l2Show.l0]
    rw [if_neg (by omega), hV, List.take_of_length_le (by omega)]
  | succ d ih =>
    intro i k V hd hV hs hk
    obtain ⟨k, rfl⟩ : ∃ z, k = z + 1 := ⟨k - 1, by omega⟩
    have hi : i < l.length := by omega
    have hx := hok _ (List.getElem_mem hi)
    obtain ⟨b1, b2, b3⟩ := okS_small hx
    have hlen := w4_len hx
    have hVn : V ≠ [] := by rw [hV]; simp [hW]
    have hV' : V ++ w4 l[i] = W ++ (l.take (i + 1)).flatMap w4 := by rw [hV, List.take_succ_eq_append_getElem hi, List.flatMap_append]; simp
    have hJ := J_four V (Go.Lib.itoa l[i].f1) (Go.Lib.itoa l[i].f2) (uw l[i].f3) (Go.Lib.itoa l[i].f4) hVn
    have hs' : (J (V ++ w4 l[i])).length ≤ 90 + 90 * (i + 1) := by
      show (J (V ++ [mkb (Go.Lib.itoa l[i].f1), mkb (Go.Lib.itoa l[i].f2), mkb (uw l[i].f3), mkb (Go.Lib.itoa l[i].f4)])).length ≤ _
      rw [hJ, List.length_append]; omega
    have go := ih (i + 1) k (V ++ w4 l[i]) (by omega) hV' hs' (by omega)
    rw [show ((i + 1 : Nat) : Int) = (i : Int) + 1 from by omega] at go
    have e1 := l2Int_ok l[i].f1 b1 k (by omega)
    have e2 := l2Int_ok l[i].f2 b2 k (by omega)
    have e4 := l2Int_ok l[i].f4 b3 k (by omega)
    have la := itoa_len _ b1
    have lb := itoa_len _ b2
    have lc := itoa_len _ b3
    have sp : (⟨#[32]⟩ : ByteArray) = mkb [32] := rfl
    have s1 : (⟨#[32, 49, 32]⟩ : ByteArray) = mkb [32, 49, 32] := rfl
    have s0 : (⟨#[32, 48, 32]⟩ : ByteArray) = mkb [32, 48, 32] := rfl
    simp only [spec_l2Show.l0]
    rw [if_pos (show (i : Int) < (l.length : Int) by omega), if_pos (show 0 ≤ (i : Int) by omega), rd47_get hi, wrap_of (x := (i : Int) + 1) (by omega) (by omega)]
    simp only [e1, e2, e4, Option.bind_some, sp, s1, s0, bt_append, bt_size, List.length_append, List.length_cons, List.length_nil]
    cases hu : l[i].f3 with
    | true =>
      rw [if_pos rfl, if_pos (by omega), if_pos (by omega), if_pos (by omega), if_pos (by omega), if_pos (by omega), if_pos (by omega)]
      have : J (V ++ w4 l[i]) = J V ++ [32] ++ Go.Lib.itoa l[i].f1 ++ [32] ++ Go.Lib.itoa l[i].f2 ++ [32, 49, 32] ++ Go.Lib.itoa l[i].f4 := by
        show J (V ++ [mkb (Go.Lib.itoa l[i].f1), mkb (Go.Lib.itoa l[i].f2), mkb (uw l[i].f3), mkb (Go.Lib.itoa l[i].f4)]) = _
        rw [hJ, hu]; simp [uw]
      rw [this] at go
      exact go
    | false =>
      rw [if_neg (by simp), if_pos (by omega), if_pos (by omega), if_pos (by omega), if_pos (by omega), if_pos (by omega), if_pos (by omega)]
      have : J (V ++ w4 l[i]) = J V ++ [32] ++ Go.Lib.itoa l[i].f1 ++ [32] ++ Go.Lib.itoa l[i].f2 ++ [32, 48, 32] ++ Go.Lib.itoa l[i].f4 := by
        show J (V ++ [mkb (Go.Lib.itoa l[i].f1), mkb (Go.Lib.itoa l[i].f2), mkb (uw l[i].f3), mkb (Go.Lib.itoa l[i].f4)]) = _
        rw [hJ, hu]; simp [uw]
      rw [this] at go
      exact go
theorem impl_show (l : List S47) (W : List ByteArray) (hW : W.length = 4) (hl : l.length ≤ 12) (hok : ∀ x ∈ l, okS x = true) (hJ : (J (W ++ l.flatMap w4)).length ≤ 10000) : ∀ d i k (V : List ByteArray), i + d = l.length → V = W ++ (l.take i).flatMap w4 → V.length = 4 + 4 * i → d < k →
    impl_showRecord.l0 k V l (l.length : Int) (i : Int) = some (mkb (J (W ++ l.flatMap w4))) := by
  intro d
  induction d with
  | zero =>
    intro i k V hd hV hs hk
    obtain ⟨k, rfl⟩ : ∃ z, k = z + 1 := ⟨k - 1, by omega⟩
    simp only [impl_showRecord.l0]
    rw [if_neg (by omega)]
    have e : V = W ++ l.flatMap w4 := by rw [hV, List.take_of_length_le (by omega)]
    subst e
    unfold strings_Join.f
    rw [if_pos (by omega), if_pos (by show (J _).length ≤ _; omega)]
    rfl
  | succ d ih =>
    intro i k V hd hV hs hk
    obtain ⟨k, rfl⟩ : ∃ z, k = z + 1 := ⟨k - 1, by omega⟩
    have hi : i < l.length := by omega
    have hx := hok _ (List.getElem_mem hi)
    obtain ⟨b1, b2, b3⟩ := okS_small hx
    have hV' : V ++ w4 l[i] = W ++ (l.take (i + 1)).flatMap w4 := by rw [hV, List.take_succ_eq_append_getElem hi, List.flatMap_append]; simp
    have go := ih (i + 1) k (V ++ w4 l[i]) (by omega) hV' (by rw [List.length_append, hs]; simp [w4]; omega) (by omega)
    rw [show ((i + 1 : Nat) : Int) = (i : Int) + 1 from by omega] at go
    have s1 : (⟨#[49]⟩ : ByteArray) = mkb [49] := rfl
    have s0 : (⟨#[48]⟩ : ByteArray) = mkb [48] := rfl
    simp only [impl_showRecord.l0]
    rw [if_pos (show (i : Int) < (l.length : Int) by omega), if_pos (show 0 ≤ (i : Int) by omega), if_pos (show (i : Int) < (l.length : Int) by omega), rd47_get hi, wrap_of (x := (i : Int) + 1) (by omega) (by omega)]
    simp only [decimal_ok _ b1, decimal_ok _ b2, decimal_ok _ b3, Option.bind_some, s1, s0, List.length_cons, List.length_nil]
    cases hu : l[i].f3 with
    | true =>
      rw [if_pos rfl, if_pos (by omega)]
      simp only [w4, hu, uw, if_true] at go
      exact go
    | false =>
      rw [if_neg (by simp), if_pos (by omega)]
      simp only [w4, hu, uw] at go
      rw [if_neg (by simp)] at go
      exact go
theorem joined_len : ∀ (l : List S47) (W : List ByteArray), W ≠ [] → (∀ x ∈ l, okS x = true) → (J (W ++ l.flatMap w4)).length ≤ (J W).length + 90 * l.length
  | [], W, _, _ => by simp
  | x :: r, W, hW, h => by
    have h2 := w4_len (h x (by simp))
    have h1 := joined_len r (W ++ w4 x) (by simp [hW]) (fun y hy => h y (by simp [hy]))
    have e : W ++ (x :: r).flatMap w4 = (W ++ w4 x) ++ r.flatMap w4 := by simp
    have e2 : J (W ++ w4 x) = J W ++ ([32] ++ Go.Lib.itoa x.f1 ++ [32] ++ Go.Lib.itoa x.f2 ++ [32] ++ uw x.f3 ++ [32] ++ Go.Lib.itoa x.f4) := J_four W _ _ _ _ hW
    rw [e2, List.length_append] at h1
    rw [e]
    simp only [List.length_cons]
    omega
/-- The text of a record. -/
def TXT (a b c : Int) (l : List S47) : List UInt8 := J ([mkb (Go.Lib.itoa a), mkb (Go.Lib.itoa b), mkb (Go.Lib.itoa c), mkb (Go.Lib.itoa (l.length : Int))] ++ l.flatMap w4)
theorem shown_both (a b c : Int) (l : List S47) (ha : 1 ≤ a ∧ a ≤ 3) (hb : 1 ≤ b ∧ b ≤ 1000000) (hc : 0 ≤ c ∧ c ≤ 5) (hl : l.length ≤ 12) (hs : okSs l 0 l.length = true) (k : Nat) (hk : 3000000000 < k) : spec_l2Show.f k a b c l = some (mkb (TXT a b c l)) ∧ impl_showRecord.f k a b c l = some (mkb (TXT a b c l)) := by
  have hok : ∀ x ∈ l, okS x = true := fun x hx => by
    obtain ⟨j, hj, rfl⟩ := List.mem_iff_getElem.1 hx
    have := okSs_each l l.length 0 hs j (by omega) (by omega)
    rwa [rd47_get hj] at this
  have la := itoa_len a (by omega)
  have lb := itoa_len b (by omega)
  have lc := itoa_len c (by omega)
  have ll := itoa_len (l.length : Int) (by omega)
  obtain ⟨W, hW⟩ : ∃ W, W = [mkb (Go.Lib.itoa a), mkb (Go.Lib.itoa b), mkb (Go.Lib.itoa c), mkb (Go.Lib.itoa (l.length : Int))] := ⟨_, rfl⟩
  have hJ : J W = Go.Lib.itoa a ++ [32] ++ Go.Lib.itoa b ++ [32] ++ Go.Lib.itoa c ++ [32] ++ Go.Lib.itoa (l.length : Int) := by
    have e : W = (([mkb (Go.Lib.itoa a)] ++ [mkb (Go.Lib.itoa b)]) ++ [mkb (Go.Lib.itoa c)]) ++ [mkb (Go.Lib.itoa (l.length : Int))] := by rw [hW]; rfl
    rw [e, J_snoc _ _ (by simp), J_snoc _ _ (by simp), J_snoc _ _ (by simp), J_one, bt_data]
    simp
  have hWn : W ≠ [] := by rw [hW]; simp
  have hJl : (J W).length ≤ 90 := by rw [hJ]; simp only [List.length_append, List.length_singleton]; omega
  have hall := joined_len l W hWn hok
  have hT : TXT a b c l = J (W ++ l.flatMap w4) := by rw [hW]; rfl
  rw [hT]
  refine ⟨?_, ?_⟩
  · have sp : (⟨#[32]⟩ : ByteArray) = mkb [32] := rfl
    have go := spec_show a b c l W hWn hl hok l.length 0 k W (by omega) (by simp) (by omega) (by omega)
    rw [show ((0 : Nat) : Int) = 0 from rfl] at go
    simp only [spec_l2Show.f, l2Int_ok a (by omega) k (by omega), l2Int_ok b (by omega) k (by omega), l2Int_ok c (by omega) k (by omega), l2Int_ok (l.length : Int) (by omega) k (by omega), Option.bind_some, sp, bt_append, bt_size, List.length_append, List.length_singleton]
    rw [if_pos (by omega), if_pos (by omega), if_pos (by omega), if_pos (by omega), if_pos (by omega), if_pos (by omega), ← hJ]
    exact go
  · have go := impl_show l W (by rw [hW]; rfl) hl hok (by omega) l.length 0 k W (by omega) (by simp) (by rw [hW]; rfl) (by omega)
    rw [show ((0 : Nat) : Int) = 0 from rfl] at go
    simp only [impl_showRecord.f, decimal_ok a (by omega), decimal_ok b (by omega), decimal_ok c (by omega), impl_Set_29.f, decimal_ok (l.length : Int) (by omega), Option.bind_some]
    rw [← hW]
    exact go
/-- The words of a text: the blanks part them. -/
def wsplit : List UInt8 → List UInt8 → List (List UInt8)
  | c, [] => [c]
  | c, b :: r => if b = 32 then c :: wsplit [] r else wsplit (c ++ [b]) r
theorem wsplit_none : ∀ (l c : List UInt8), 32 ∉ l → wsplit c l = [c ++ l] := by
  intro l
  induction l with
  | nil => intro c _; simp [wsplit]
  | cons b r ih =>
    intro c h
    have hb : b ≠ 32 := fun e => h (by simp [e])
    rw [wsplit, if_neg hb, ih _ (fun hh => h (List.mem_cons_of_mem _ hh))]
    simp
theorem wsplit_hit : ∀ (a b c : List UInt8), 32 ∉ a → wsplit c (a ++ 32 :: b) = (c ++ a) :: wsplit [] b := by
  intro a
  induction a with
  | nil => intro b c _; simp [wsplit]
  | cons x r ih =>
    intro b c h
    have hb : x ≠ 32 := fun e => h (by simp [e])
    rw [List.cons_append, wsplit, if_neg hb, ih _ _ (fun hh => h (List.mem_cons_of_mem _ hh))]
    simp
theorem wsplit_len : ∀ (l c : List UInt8), 1 ≤ (wsplit c l).length ∧ (wsplit c l).length ≤ l.length + 1 := by
  intro l
  induction l with
  | nil => intro c; simp [wsplit]
  | cons b r ih =>
    intro c
    rw [wsplit]
    split
    · have := ih []
      simp only [List.length_cons]; omega
    · have := ih (c ++ [b])
      simp only [List.length_cons]; omega
theorem wsplit_word : ∀ (l c w : List UInt8), w ∈ wsplit c l → w.length ≤ c.length + l.length := by
  intro l
  induction l with
  | nil => intro c w h; simp [wsplit] at h; subst h; simp
  | cons b r ih =>
    intro c w h
    rw [wsplit] at h
    split at h
    · rcases List.mem_cons.1 h with h | h
      · subst h; simp only [List.length_cons]; omega
      · have := ih [] w h
        simp only [List.length_cons, List.length_nil] at this ⊢; omega
    · have := ih _ w h
      simp only [List.length_append, List.length_cons, List.length_nil] at this ⊢; omega
theorem index32 : ∀ l : List UInt8, (Go.Lib.index l [32] = -1 ∧ 32 ∉ l) ∨ ∃ i : Nat, Go.Lib.index l [32] = (i : Int) ∧ i < l.length ∧ l = l.take i ++ 32 :: l.drop (i + 1) ∧ 32 ∉ l.take i := by
  intro l
  induction l with
  | nil => left; simp [Go.Lib.index]
  | cons b r ih =>
    by_cases hb : b = 32
    · subst hb
      right
      exact ⟨0, by simp [Go.Lib.index], by simp, by simp, by simp⟩
    · have hp : ([32] : List UInt8).isPrefixOf (b :: r) = false := by
        simp [List.isPrefixOf]; exact fun e => hb e.symm
      rcases ih with ⟨h1, h2⟩ | ⟨i, h1, h2, h3, h4⟩
      · left
        refine ⟨?_, ?_⟩
        · rw [Go.Lib.index, hp, h1]; simp
        · intro h
          rcases List.mem_cons.1 h with h | h
          · exact hb h.symm
          · exact h2 h
      · right
        refine ⟨i + 1, ?_, by simp only [List.length_cons]; omega, ?_, ?_⟩
        · rw [Go.Lib.index, hp, h1, if_neg (by simp), if_neg (fun e => by have := beq_iff_eq.1 e; omega)]; omega
        · exact congrArg (b :: ·) h3
        · intro h
          rw [List.take_succ_cons] at h
          rcases List.mem_cons.1 h with h | h
          · exact hb h.symm
          · exact h4 h
theorem splitK_words : ∀ (n : Nat) (l : List UInt8), l.length ≤ n → Go.Lib.splitK [32] 0 (Go.Lib.count l [32]) l = wsplit [] l := by
  intro n
  induction n with
  | zero =>
    intro l hl
    obtain rfl : l = [] := List.length_eq_zero_iff.1 (by omega)
    rw [Go.Lib.count_miss (by simp [Go.Lib.index])]; rfl
  | succ n ih =>
    intro l hl
    rcases index32 l with ⟨h1, h2⟩ | ⟨i, h1, h2, h3, h4⟩
    · rw [Go.Lib.count_miss h1, wsplit_none _ _ h2]; rfl
    · rw [Go.Lib.count_hit (by simp) h1, Nat.add_comm, Go.Lib.splitK]
      rw [h1, if_neg (fun e => by have := beq_iff_eq.1 e; omega), Int.toNat_natCast, Nat.add_zero]
      show l.take i :: Go.Lib.splitK [32] 0 (Go.Lib.count (l.drop (i + 1)) [32]) (l.drop (i + 1)) = _
      rw [ih (l.drop (i + 1)) (by rw [List.length_drop]; omega)]
      conv => rhs; rw [h3]
      rw [wsplit_hit _ _ _ h4]; rfl
theorem mkb_data (s : ByteArray) : mkb s.data.toList = s := by
  apply ByteArray.ext
  apply Array.toList_inj.1
  simp [mkb]
theorem words_impl (t : ByteArray) : Go.Lib.splitB (⟨#[32]⟩ : ByteArray) 0 (Go.Lib.countB t (⟨#[32]⟩ : ByteArray)) t = (wsplit [] t.data.toList).map mkb := by
  have h := Go.Lib.splitB_data (⟨#[32]⟩ : ByteArray) 0 (Go.Lib.countB t (⟨#[32]⟩ : ByteArray)) t
  have h2 : Go.Lib.splitK (⟨#[32]⟩ : ByteArray).data.toList 0 (Go.Lib.countB t (⟨#[32]⟩ : ByteArray)) t.data.toList = wsplit [] t.data.toList := splitK_words _ t.data.toList (Nat.le_refl _)
  rw [← h2, ← h, List.map_map]
  conv => lhs; rw [← List.map_id (Go.Lib.splitB _ _ _ _)]
  apply List.map_congr_left
  intro s _
  exact (mkb_data s).symm
theorem bt_val (t : ByteArray) (i : Nat) : bt t (i : Int) = ((t.data.toList.getD i 0).toNat : Int) := by
  have hz : t.size = t.data.toList.length := Go.Lib.size_eq t
  unfold bt
  by_cases h : i < t.size
  · rw [dif_pos (by simpa using h)]
    have h' : i < t.data.toList.length := by omega
    rw [List.getD_eq_getElem?_getD, List.getElem?_eq_getElem h']
    rfl
  · rw [dif_neg (by simpa using h), List.getD_eq_getElem?_getD, List.getElem?_eq_none (by omega)]
    rfl
theorem ext_mkb (t : ByteArray) (i j : Nat) : t.extract i j = mkb ((t.data.toList.drop i).take (j - i)) := by
  rw [← Go.Lib.extract_data, mkb_data]
theorem drop_at (l : List UInt8) (j : Nat) (h : j < l.length) : l.drop j = l.getD j 0 :: l.drop (j + 1) := by
  rw [List.drop_eq_getElem_cons h, List.getD_eq_getElem?_getD, List.getElem?_eq_getElem h]; rfl
theorem take_on (l : List UInt8) (i j : Nat) (hi : i ≤ j) (h : j < l.length) : (l.drop i).take (j + 1 - i) = (l.drop i).take (j - i) ++ [l.getD j 0] := by
  rw [show j + 1 - i = (j - i) + 1 from by omega, List.take_add_one, List.getElem?_drop, show i + (j - i) = j from by omega, List.getElem?_eq_getElem h, List.getD_eq_getElem?_getD, List.getElem?_eq_getElem h]; rfl
theorem u8_of {b : UInt8} {n : Nat} (hn : n < 256) : ((b.toNat : Int) = (n : Int)) ↔ b = UInt8.ofNat n := by
  constructor
  · intro h
    apply UInt8.toNat_inj.1
    rw [UInt8.toNat_ofNat']
    omega
  · rintro rfl
    rw [UInt8.toNat_ofNat']
    omega
theorem u8_32 {b : UInt8} : ((b.toNat : Int) = 32) ↔ b = 32 := by have := u8_of (b := b) (n := 32) (by omega); exact this
theorem u8_48 {b : UInt8} : ((b.toNat : Int) = 48) ↔ b = 48 := by have := u8_of (b := b) (n := 48) (by omega); exact this
theorem u8_45 {b : UInt8} : ((b.toNat : Int) = 45) ↔ b = 45 := by have := u8_of (b := b) (n := 45) (by omega); exact this
theorem words_spec (t : ByteArray) (ht : t.size ≤ 1048576) : ∀ (d i j : Nat) (ws : List ByteArray) (k : Nat), j + d = t.size → i ≤ j → ws.length ≤ j → d + 3 < k →
    spec_l2Words.l0 k t ws (i : Int) (j : Int) = some (ws ++ (wsplit ((t.data.toList.drop i).take (j - i)) (t.data.toList.drop j)).map mkb) := by
  have hz : t.size = t.data.toList.length := Go.Lib.size_eq t
  intro d
  induction d with
  | zero =>
    intro i j ws k hd hi hw hk
    obtain ⟨k, rfl⟩ : ∃ q, k = q + 1 + 1 := ⟨k - 2, by omega⟩
    rw [spec_l2Words.l0, if_pos (by omega), if_pos (by omega), if_pos (by omega), if_pos (by omega), if_pos (by omega), wrap_of (x := (j : Int) + 1) (by omega) (by omega), spec_l2Words.l0, if_neg (by omega)]
    rw [show t.data.toList.drop j = [] from List.drop_eq_nil_of_le (by omega), wsplit, Int.toNat_natCast, Int.toNat_natCast, ext_mkb]
    rfl
  | succ d ih =>
    intro i j ws k hd hi hw hk
    obtain ⟨k, rfl⟩ : ∃ q, k = q + 1 := ⟨k - 1, by omega⟩
    have hj : j < t.data.toList.length := by omega
    rw [spec_l2Words.l0, if_pos (by omega), if_neg (by omega), if_pos (by omega), if_pos (by omega), drop_at _ _ hj, wsplit, bt_val]
    by_cases hb : t.data.toList.getD j 0 = 32
    · rw [if_pos ((u8_32).2 hb), if_pos hb, if_pos (by omega), if_pos (by omega), if_pos (by omega), wrap_of (x := (j : Int) + 1) (by omega) (by omega)]
      have := ih (j + 1) (j + 1) (ws ++ [t.extract (i : Int).toNat (j : Int).toNat]) k (by omega) (by omega) (by simp; omega) (by omega)
      rw [show ((j + 1 : Nat) : Int) = (j : Int) + 1 from by omega] at this
      rw [this, Nat.sub_self, Int.toNat_natCast, Int.toNat_natCast, ext_mkb]
      simp
    · rw [if_neg (fun e => hb ((u8_32).1 e)), if_neg hb, wrap_of (x := (j : Int) + 1) (by omega) (by omega)]
      have := ih i (j + 1) ws k (by omega) (by omega) (by omega) (by omega)
      rw [show ((j + 1 : Nat) : Int) = (j : Int) + 1 from by omega] at this
      rw [this, take_on _ _ _ hi hj]
theorem spec_words (t : ByteArray) (ht : t.size ≤ 1048576) (k : Nat) (hk : 1048580 < k) : spec_l2Words.f k t = some ((wsplit [] t.data.toList).map mkb) := by
  have := words_spec t ht t.size 0 0 [] k (by omega) (by omega) (by simp) (by omega)
  simpa [spec_l2Words.f] using this
/-! ### numbers -/
def isd (b : UInt8) : Bool := decide (48 ≤ b.toNat) && decide (b.toNat ≤ 57)
def dval : Nat → List UInt8 → Nat
  | a, [] => a
  | a, b :: r => dval (a * 10 + (b.toNat - 48)) r
theorem dval_cons (a : Nat) (b : UInt8) (r : List UInt8) : dval a (b :: r) = dval (a * 10 + (b.toNat - 48)) r := by with_unfolding_all rfl
theorem pum_cons (M n : Nat) (b : UInt8) (r : List UInt8) (hd : 48 ≤ b.toNat ∧ b.toNat ≤ 57) : Go.Lib.parseUintM M n (b :: r) = if 1844674407370955162 ≤ n then .range else if M < n * 10 + (b.toNat - 48) then .range else Go.Lib.parseUintM M (n * 10 + (b.toNat - 48)) r := by rw [Go.Lib.parseUintM, if_pos hd]
def fin (l : List UInt8) (neg : Bool) (at_ : Nat) (n : Nat) : Int × Bool := if l.getD at_ 0 = 48 ∧ (neg = true ∨ 1 < l.length) then (0, false) else (if neg = true then -(n : Int) else (n : Int), true)
theorem num_loop (t : ByteArray) (at_ : Nat) (neg : Bool) (h0 : at_ < t.size) (hs : t.size ≤ 1048576) : ∀ (d i e n k : Nat), i + d = t.size → e + d ≤ 10 → n + 1 ≤ 10 ^ e → d + 4 < k →
    spec_l2Number.l0 k t (at_ : Int) neg (n : Int) (i : Int) = some (if (t.data.toList.drop i).all isd = true then fin t.data.toList neg at_ (dval n (t.data.toList.drop i)) else (0, false)) := by
  have hz : t.size = t.data.toList.length := Go.Lib.size_eq t
  intro d
  induction d with
  | zero =>
    intro i e n k hd he hn hk
    obtain ⟨k, rfl⟩ : ∃ q, k = q + 1 + 1 := ⟨k - 2, by omega⟩
    have h10 : 10 ^ e ≤ 10 ^ 10 := Nat.pow_le_pow_right (by omega) (by omega)
    rw [spec_l2Number.l0, if_neg (by omega), if_pos (by omega), if_pos (by omega), show t.data.toList.drop i = [] from List.drop_eq_nil_of_le (by omega), bt_val, List.all_nil, if_pos rfl]
    show _ = some (fin _ _ _ n)
    unfold fin
    by_cases hb : t.data.toList.getD at_ 0 = 48
    · rw [if_pos ((u8_48).2 hb)]
      cases neg
      · rw [if_neg (by simp), spec_l2Number.j4]
        by_cases h1 : 1 < t.data.toList.length
        · rw [decide_eq_true (by omega), if_pos rfl, if_pos ⟨hb, Or.inr h1⟩]
        · rw [decide_eq_false (by omega), if_neg (by simp), if_neg (by simp), if_neg (by rintro ⟨_, h | h⟩; cases h; exact h1 h), if_neg (by simp)]
      · rw [if_pos rfl, spec_l2Number.j4, if_pos rfl, if_pos ⟨hb, Or.inl rfl⟩]
    · rw [if_neg (fun e => hb ((u8_48).1 e)), if_neg (fun h => hb h.1), spec_l2Number.j4, if_neg (by simp)]
      cases neg
      · rw [if_neg (by simp), if_neg (by simp)]
      · rw [if_pos rfl, if_pos rfl, wrap_of (x := -(n : Int)) (by omega) (by omega)]
  | succ d ih =>
    intro i e n k hd he hn hk
    obtain ⟨k, rfl⟩ : ∃ q, k = q + 1 := ⟨k - 1, by omega⟩
    have h10 : 10 ^ (e + 1) ≤ 10 ^ 10 := Nat.pow_le_pow_right (by omega) (by omega)
    have hp : 10 ^ (e + 1) = 10 ^ e * 10 := Nat.pow_succ ..
    have hi : i < t.data.toList.length := by omega
    rw [spec_l2Number.l0, if_pos (by omega), if_pos (by omega), drop_at _ _ hi, bt_val, List.all_cons]
    generalize t.data.toList.getD i 0 = b
    by_cases hb : isd b = true
    · have hb' := hb
      simp only [isd, Bool.and_eq_true, decide_eq_true_eq] at hb'
      rw [if_neg (by omega), if_neg (by omega), hb, Bool.true_and, dval_cons]
      have := ih (i + 1) (e + 1) (n * 10 + (b.toNat - 48)) k (by omega) (by omega) (by omega) (by omega)
      rw [show ((n * 10 + (b.toNat - 48) : Nat) : Int) = (n : Int) * 10 + ((b.toNat - 48 : Nat) : Int) from by omega, show ((i + 1 : Nat) : Int) = (i : Int) + 1 from by omega] at this
      have e1 : (((b.toNat : Int) - 48) % 256) = ((b.toNat - 48 : Nat) : Int) := by omega
      rw [← this, wrap_of (x := (n : Int) * 10) (by omega) (by omega), wrap_of (x := (i : Int) + 1) (by omega) (by omega), e1, wrap_of (x := (n : Int) * 10 + ((b.toNat - 48 : Nat) : Int)) (by omega) (by omega)]
    · rw [Bool.not_eq_true] at hb
      rw [hb, Bool.false_and]
      simp only [Bool.false_eq_true, if_false]
      simp only [isd, Bool.and_eq_false_iff, decide_eq_false_iff_not] at hb
      by_cases h1 : ((b.toNat : Int)) < 48
      · rw [if_pos h1]
      · rw [if_neg h1, if_pos (by omega)]
def isneg (l : List UInt8) : Bool := decide (l.getD 0 0 = 45)
def sgn (l : List UInt8) : Nat := if isneg l = true then 1 else 0
def num (l : List UInt8) : Int × Bool := if l.length < sgn l + 1 ∨ sgn l + 10 < l.length then (0, false) else (if (l.drop (sgn l)).all isd = true then fin l (isneg l) (sgn l) (dval 0 (l.drop (sgn l))) else (0, false))
theorem spec_num (t : ByteArray) (ht : t.size ≤ 1048576) (k : Nat) (hk : 30 < k) : spec_l2Number.f k t = some (num t.data.toList) := by
  have hz : t.size = t.data.toList.length := Go.Lib.size_eq t
  obtain ⟨k, rfl⟩ : ∃ q, k = q + 1 + 1 + 1 := ⟨k - 3, by omega⟩
  have top : ∀ n : Bool, isneg t.data.toList = n → spec_l2Number.j0 (k + 1 + 1 + 1) t 0 false n = some (num t.data.toList) := by
    intro n hn
    have main : ∀ a : Nat, a = sgn t.data.toList → spec_l2Number.j1 (k + 1 + 1) t (a : Int) n = some (num t.data.toList) := by
      intro a ha
      have ha1 : a ≤ 1 := by rw [ha]; unfold sgn; split <;> omega
      rw [spec_l2Number.j1, wrap_of (x := (t.size : Int) - (a : Int)) (by omega) (by omega)]
      unfold num
      rw [← ha]
      by_cases h1 : (t.size : Int) - (a : Int) < 1
      · rw [if_pos h1, if_pos (by omega), spec_l2Number.j2, if_pos rfl]
      · rw [if_neg h1]
        by_cases h2 : (t.size : Int) - (a : Int) > 10
        · rw [decide_eq_true h2, spec_l2Number.j2, if_pos rfl, if_pos (by omega)]
        · rw [decide_eq_false h2, spec_l2Number.j2, if_neg (by simp), if_neg (by omega), hn]
          have := num_loop t a n (by omega) ht (t.size - a) a 0 0 k (by omega) (by omega) (by simp) (by omega)
          rw [← this]; rfl
    rw [spec_l2Number.j0]
    cases n
    · rw [if_neg (by simp)]
      exact main 0 (by unfold sgn; rw [hn]; rfl)
    · rw [if_pos rfl]
      exact main 1 (by unfold sgn; rw [hn]; rfl)
  unfold spec_l2Number.f
  by_cases h : t.toList = []
  · rw [if_pos h]
    refine top false ?_
    rw [Go.Lib.toList_data] at h
    rw [h]; rfl
  · rw [if_neg h]
    have h0 : 0 < t.size := by
      rw [Go.Lib.toList_data] at h
      have := List.length_pos_iff.2 h
      omega
    rw [if_pos (by omega)]
    refine top _ ?_
    have := bt_val t 0
    rw [show ((0 : Nat) : Int) = 0 from rfl] at this
    rw [this, isneg]
    by_cases hb : t.data.toList.getD 0 0 = 45
    · rw [decide_eq_true hb, hb]; rfl
    · rw [decide_eq_false hb]
      symm
      rw [beq_eq_false_iff_ne]
      exact fun e => hb ((u8_45).1 e)
theorem dval_ge : ∀ (l : List UInt8) (n : Nat), n ≤ dval n l := by
  intro l
  induction l with
  | nil => intro n; exact Nat.le_refl _
  | cons b r ih => intro n; have := ih (n * 10 + (b.toNat - 48)); rw [dval_cons]; omega
theorem dval_snoc : ∀ (l : List UInt8) (n : Nat) (b : UInt8), dval n (l ++ [b]) = dval n l * 10 + (b.toNat - 48) := by
  intro l
  induction l with
  | nil => intro n b; rfl
  | cons x r ih => intro n b; rw [List.cons_append, dval_cons, dval_cons, ih]
theorem dec_dval : ∀ (d : Nat) (l : List UInt8), l.length = d + 1 → l.all isd = true → (d = 0 ∨ l.getD 0 0 ≠ 48) → Go.Lib.decDigits (dval 0 l) = l := by
  intro d
  induction d with
  | zero =>
    intro l hl ha _
    obtain ⟨b, rfl⟩ := List.length_eq_one_iff.1 hl
    simp only [List.all_cons, List.all_nil, Bool.and_true, isd, Bool.and_eq_true, decide_eq_true_eq] at ha
    show Go.Lib.decDigits (0 * 10 + (b.toNat - 48)) = [b]
    rw [Go.Lib.decDigits.eq_def, dif_pos (by omega)]
    congr 1
    apply UInt8.toNat_inj.1
    rw [UInt8.toNat_ofNat']
    omega
  | succ d ih =>
    intro l hl ha h0
    have hne : l ≠ [] := fun e => by rw [e] at hl; simp at hl
    obtain ⟨r, b, rfl⟩ : ∃ r b, l = r ++ [b] := ⟨l.dropLast, l.getLast hne, (List.dropLast_concat_getLast hne).symm⟩
    have hr : r.length = d + 1 := by simp at hl; omega
    rw [List.all_append, Bool.and_eq_true] at ha
    obtain ⟨ha, hb⟩ := ha
    simp only [List.all_cons, List.all_nil, Bool.and_true, isd, Bool.and_eq_true, decide_eq_true_eq] at hb
    obtain ⟨x, q, rfl⟩ : ∃ x q, r = x :: q := by
      cases r with
      | nil => simp at hr
      | cons x q => exact ⟨x, q, rfl⟩
    have hx : x ≠ 48 := by
      rcases h0 with h | h
      · omega
      · simpa using h
    have IH := ih (x :: q) hr ha (Or.inr (by simpa using hx))
    have hv : 1 ≤ dval 0 (x :: q) := by
      have h1 := dval_ge q (0 * 10 + (x.toNat - 48))
      rw [List.all_cons, Bool.and_eq_true] at ha
      have h2 := ha.1
      simp only [isd, Bool.and_eq_true, decide_eq_true_eq] at h2
      have h3 : x.toNat ≠ 48 := fun e => hx (UInt8.toNat_inj.1 e)
      rw [dval_cons]; omega
    rw [dval_snoc, Go.Lib.decDigits.eq_def, dif_neg (by omega)]
    rw [show (dval 0 (x :: q) * 10 + (b.toNat - 48)) / 10 = dval 0 (x :: q) from by omega, IH]
    congr 2
    apply UInt8.toNat_inj.1
    rw [UInt8.toNat_ofNat']
    omega
theorem dec_facts : ∀ (m : Nat), Go.Lib.decDigits m ≠ [] ∧ (Go.Lib.decDigits m).all isd = true ∧ (m ≠ 0 → (Go.Lib.decDigits m).getD 0 0 ≠ 48) := by
  intro m
  induction m using Nat.strongRecOn with
  | _ m ih =>
    rw [Go.Lib.decDigits.eq_def]
    by_cases h : m < 10
    · rw [dif_pos h]
      have e : (UInt8.ofNat (48 + m)).toNat = 48 + m := by rw [UInt8.toNat_ofNat']; omega
      refine ⟨by simp, by simp only [List.all_cons, List.all_nil, Bool.and_true, isd, e, Bool.and_eq_true, decide_eq_true_eq]; omega, fun h0 hh => ?_⟩
      have : (UInt8.ofNat (48 + m)).toNat = (48 : UInt8).toNat := congrArg _ (by simpa using hh)
      rw [e] at this
      have e2 : (48 : UInt8).toNat = 48 := rfl
      omega
    · rw [dif_neg h]
      obtain ⟨h1, h2, h3⟩ := ih (m / 10) (by omega)
      have e : (UInt8.ofNat (48 + m % 10)).toNat = 48 + m % 10 := by rw [UInt8.toNat_ofNat']; omega
      refine ⟨by simp, ?_, fun _ => ?_⟩
      · rw [List.all_append, h2]
        simp only [List.all_cons, List.all_nil, Bool.and_true, isd, e, Bool.true_and, Bool.and_eq_true, decide_eq_true_eq]; omega
      · cases hd : Go.Lib.decDigits (m / 10) with
        | nil => exact absurd hd h1
        | cons x q =>
          have := h3 (by omega)
          rw [hd] at this
          simpa using this
theorem parse_dval : ∀ (l : List UInt8) (e n : Nat), l.all isd = true → e + l.length ≤ 10 → n + 1 ≤ 10 ^ e → Go.Lib.parseUintM (2 ^ 64 - 1) n l = .ok (dval n l) ∧ dval n l < 10 ^ 10 := by
  intro l
  induction l with
  | nil =>
    intro e n _ he hn
    have h10 : 10 ^ e ≤ 10 ^ 10 := Nat.pow_le_pow_right (by omega) (by simp at he; omega)
    exact ⟨rfl, by show n < _; omega⟩
  | cons b r ih =>
    intro e n ha he hn
    rw [List.all_cons, Bool.and_eq_true] at ha
    have hb := ha.1
    simp only [isd, Bool.and_eq_true, decide_eq_true_eq] at hb
    simp only [List.length_cons] at he
    have h10 : 10 ^ (e + 1) ≤ 10 ^ 10 := Nat.pow_le_pow_right (by omega) (by omega)
    have hp : 10 ^ (e + 1) = 10 ^ e * 10 := Nat.pow_succ ..
    have := ih (e + 1) (n * 10 + (b.toNat - 48)) ha.2 (by omega) (by omega)
    rw [pum_cons _ _ _ _ (by omega), if_neg (by omega), if_neg (by omega), dval_cons]
    exact this
theorem trim_drop (l : List UInt8) : Go.Lib.trimPrefix l [45] = l.drop (sgn l) := by
  unfold Go.Lib.trimPrefix Go.Lib.hasPrefix sgn isneg
  cases l with
  | nil => rfl
  | cons b r =>
    by_cases h : b = 45
    · subst h; simp [List.isPrefixOf]
    · have : ¬ (45 : UInt8) = b := fun e => h e.symm
      simp [List.isPrefixOf, h, this]
theorem fin_acc {l : List UInt8} {neg : Bool} {a n : Nat} (h : (fin l neg a n).2 = true) : ¬ (l.getD a 0 = 48 ∧ (neg = true ∨ 1 < l.length)) ∧ (fin l neg a n).1 = if neg = true then -(n : Int) else (n : Int) := by
  unfold fin at h ⊢
  split at h
  · cases h
  · rename_i hh
    rw [if_neg hh]
    exact ⟨hh, rfl⟩
theorem num_acc (l : List UInt8) (h : (num l).2 = true) : Go.Lib.itoa (num l).1 = l ∧ Go.Lib.parseIntB 64 l = .ok (num l).1 ∧ (Go.Lib.trimPrefix l [45]).length ≤ 10 ∧ -10000000000 ≤ (num l).1 ∧ (num l).1 ≤ 10000000000 := by
  have hl : ¬ (l.length < sgn l + 1 ∨ sgn l + 10 < l.length) := fun hh => by unfold num at h; rw [if_pos hh] at h; cases h
  have ha : (l.drop (sgn l)).all isd = true := by
    unfold num at h
    rw [if_neg hl] at h
    split at h
    · assumption
    · cases h
  have hnum : num l = fin l (isneg l) (sgn l) (dval 0 (l.drop (sgn l))) := by unfold num; rw [if_neg hl, if_pos ha]
  rw [hnum] at h
  obtain ⟨h1, h2⟩ := fin_acc h
  rw [hnum, h2, trim_drop]
  have hlen : (l.drop (sgn l)).length = l.length - sgn l := List.length_drop ..
  have hp := parse_dval (l.drop (sgn l)) 0 0 ha (by omega) (by simp)
  refine ⟨?_, ?_, by omega, by split <;> omega, by split <;> omega⟩
  · cases hn : isneg l with
    | true =>
      have hs : sgn l = 1 := by unfold sgn; rw [hn]; rfl
      rw [hs] at ha hlen h1 hp ⊢
      rw [if_pos rfl]
      cases l with
      | nil => exact absurd hn (by decide)
      | cons b r =>
        have hb : b = 45 := by unfold isneg at hn; simpa using hn
        subst hb
        simp only [List.drop_succ_cons, List.drop_zero] at ha hlen hp ⊢
        have h48 : r.getD 0 0 ≠ 48 := fun e => h1 ⟨by simpa using e, Or.inl hn⟩
        have hd := dec_dval (r.length - 1) r (by simp only [List.length_cons] at hl; omega) ha (Or.inr h48)
        have hv : 1 ≤ dval 0 r := by
          rcases Nat.eq_zero_or_pos (dval 0 r) with e | e
          · rw [e] at hd
            rw [← hd] at h48
            exact absurd (by rw [Go.Lib.decDigits.eq_def]; rfl) h48
          · exact e
        unfold Go.Lib.itoa
        rw [if_pos (by omega), show (-(dval 0 r : Int)).natAbs = dval 0 r from by omega, hd]
    | false =>
      have hs : sgn l = 0 := by unfold sgn; rw [hn]; rfl
      rw [hs] at ha hlen h1 hp ⊢
      rw [List.drop_zero] at ha hlen hp ⊢
      rw [if_neg (by simp)]
      have hd := dec_dval (l.length - 1) l (by omega) ha (by
        by_cases e : l.length = 1
        · left; omega
        · right; exact fun e2 => h1 ⟨e2, Or.inr (by omega)⟩)
      unfold Go.Lib.itoa
      rw [if_neg (by omega), Int.toNat_natCast, hd]
  · cases hn : isneg l with
    | true =>
      have hs : sgn l = 1 := by unfold sgn; rw [hn]; rfl
      rw [hs] at ha hlen hp ⊢
      rw [if_pos rfl]
      cases l with
      | nil => exact absurd hn (by decide)
      | cons b r =>
        have hb : b = 45 := by unfold isneg at hn; simpa using hn
        subst hb
        simp only [List.drop_succ_cons, List.drop_zero] at ha hlen hp ⊢
        rw [Go.Lib.parseIntB_minus, Go.Lib.parseUintB, if_neg (fun e => absurd (Or.inl (by rw [hs, e]; simp)) hl), hp.1]
        unfold Go.Lib.signedC
        simp only
        rw [if_neg (by have := hp.2; omega)]
    | false =>
      have hs : sgn l = 0 := by unfold sgn; rw [hn]; rfl
      rw [hs] at ha hlen hp ⊢
      rw [List.drop_zero] at ha hlen hp ⊢
      rw [if_neg (by simp)]
      cases l with
      | nil => exact absurd (Or.inl (by rw [hs]; simp)) hl
      | cons b r =>
        have hb := ha
        rw [List.all_cons, Bool.and_eq_true] at hb
        have hb := hb.1
        simp only [isd, Bool.and_eq_true, decide_eq_true_eq] at hb
        rw [Go.Lib.parseIntB_plain 64 b r (by omega) (by omega), Go.Lib.parseUintB, if_neg (by simp), hp.1]
        unfold Go.Lib.signlessC
        simp only
        rw [if_neg (by have := hp.2; omega)]
theorem num_back (l : List UInt8) (v : Int) (ht : (Go.Lib.trimPrefix l [45]).length ≤ 10) (hv : Go.Lib.itoa v = l) : (num l).2 = true := by
  rw [trim_drop] at ht
  have hlen : (l.drop (sgn l)).length = l.length - sgn l := List.length_drop ..
  by_cases h0 : v < 0
  · have hl : l = 45 :: Go.Lib.decDigits v.natAbs := by rw [← hv]; unfold Go.Lib.itoa; rw [if_pos h0]
    obtain ⟨f1, f2, f3⟩ := dec_facts v.natAbs
    have hn : isneg l = true := by rw [hl]; rfl
    have hs : sgn l = 1 := by unfold sgn; rw [hn]; rfl
    have hd : l.drop 1 = Go.Lib.decDigits v.natAbs := by rw [hl]; rfl
    have hne := List.length_pos_iff.2 f1
    rw [hs, hd] at hlen
    rw [hs, hd] at ht
    unfold num
    rw [hs, if_neg (by omega), hd, if_pos f2]
    unfold fin
    rw [if_neg]
    rintro ⟨h, _⟩
    rw [hl] at h
    exact f3 (by omega) (by simpa using h)
  · have hl : l = Go.Lib.decDigits v.toNat := by rw [← hv]; unfold Go.Lib.itoa; rw [if_neg h0]
    obtain ⟨f1, f2, f3⟩ := dec_facts v.toNat
    have hne := List.length_pos_iff.2 f1
    have hn : isneg l = false := by
      rw [hl]
      unfold isneg
      cases hd : Go.Lib.decDigits v.toNat with
      | nil => exact absurd hd f1
      | cons x q =>
        rw [hd, List.all_cons, Bool.and_eq_true] at f2
        have h2 := f2.1
        simp only [isd, Bool.and_eq_true, decide_eq_true_eq] at h2
        rw [decide_eq_false_iff_not]
        intro e
        have e : x = 45 := by simpa using e
        subst e
        exact absurd h2.1 (by decide)
    have hs : sgn l = 0 := by unfold sgn; rw [hn]; rfl
    rw [hs, List.drop_zero] at hlen ht
    unfold num
    rw [hs, List.drop_zero, if_neg (by rw [hl]; rw [hl] at ht; omega), hl, if_pos f2]
    unfold fin
    rw [if_neg]
    rintro ⟨h, h1⟩
    by_cases hz : v.toNat = 0
    · rw [hz] at h1 hl
      rw [hl] at hn
      rcases h1 with h1 | h1
      · rw [hn] at h1; cases h1
      · rw [Go.Lib.decDigits.eq_def] at h1; simp at h1
    · exact f3 hz h
theorem impl_num (t : ByteArray) (ht : t.size ≤ 1048576) : ∃ v, impl_number.f t = some (v, (num t.data.toList).2) ∧ ((num t.data.toList).2 = true → v = (num t.data.toList).1) := by
  unfold impl_number.f
  rw [if_pos (by omega)]
  by_cases h1 : ((Go.Lib.trimPrefix t.data.toList [45]).length : Int) > 10
  · rw [if_pos h1]
    cases hA : (num t.data.toList).2 with
    | false => exact ⟨0, rfl, fun h => by cases h⟩
    | true => have := (num_acc _ hA).2.2.1; omega
  · rw [if_neg h1]
    have dec : ∀ v : Int, -9223372036854775808 ≤ v → v ≤ 9223372036854775807 → impl_decimal.f v = some (mkb (Go.Lib.itoa v)) := fun v a b => by unfold impl_decimal.f; rw [if_pos a, if_pos b]; rfl
    cases hA : (num t.data.toList).2 with
    | true =>
      obtain ⟨a1, a2, a3, a4, a5⟩ := num_acc _ hA
      rw [a2]
      simp only
      rw [dec _ (by omega) (by omega), Option.bind_some, bt_toList, a1, Go.Lib.toList_data]
      exact ⟨_, by rw [beq_self_eq_true], fun _ => rfl⟩
    | false =>
      cases hp : Go.Lib.parseIntB 64 t.data.toList with
      | ok v =>
        have hb := Go.Lib.parseIntB_bounds hp
        simp only
        rw [dec _ (by omega) (by omega), Option.bind_some, bt_toList, Go.Lib.toList_data]
        refine ⟨v, ?_, fun h => by cases h⟩
        have : (Go.Lib.itoa v == t.data.toList) = false := by
          rw [beq_eq_false_iff_ne]
          intro e
          have := num_back t.data.toList v (by omega) e
          rw [hA] at this; cases this
        rw [this]
      | range => exact ⟨_, rfl, fun h => by cases h⟩
      | _ => exact ⟨0, rfl, fun h => by cases h⟩
/-! ### the record -/
def nums : List (List UInt8) → Option (List Int)
  | [] => some []
  | w :: r => if (num w).2 = true then (nums r).map ((num w).1 :: ·) else none
def sets (c : Int) : List Int → List S47
  | a :: b :: d :: e :: r => ⟨c, a, b, d == 1, e⟩ :: sets c r
  | _ => []
theorem sets_cons (c a b d e : Int) (r : List Int) : sets c (a :: b :: d :: e :: r) = ⟨c, a, b, d == 1, e⟩ :: sets c r := by with_unfolding_all rfl
theorem sets_nil (c : Int) : sets c [] = [] := by with_unfolding_all rfl
theorem nums_len : ∀ (L : List (List UInt8)) (ns : List Int), nums L = some ns → ns.length = L.length := by
  intro L
  induction L with
  | nil => intro ns h; simp [nums] at h; subst h; rfl
  | cons w r ih =>
    intro ns h
    rw [nums] at h
    split at h
    · obtain ⟨z, hz, rfl⟩ := Option.map_eq_some_iff.1 h
      simp [ih z hz]
    · cases h
theorem sets_len (c : Int) : ∀ (d : Nat) (l : List Int), l.length = 4 * d → (sets c l).length = d := by
  intro d
  induction d with
  | zero => intro l h; obtain rfl : l = [] := List.length_eq_zero_iff.1 (by omega); rw [sets_nil]; rfl
  | succ d ih =>
    intro l h
    match l, h with
    | p :: q :: u :: v :: y, h =>
      rw [sets_cons, List.length_cons, ih y (by simp only [List.length_cons] at h; omega)]
    | [], h => simp at h
    | [_], h => simp at h; omega
    | [_, _], h => simp at h; omega
    | [_, _, _], h => simp at h; omega
def bad : Int × Int × Int × List S47 × Bool := (0, 0, 0, [], false)
def fin_ (t : List UInt8) (a b c : Int) (l : List S47) : Int × Int × Int × List S47 × Bool := if spec_RecordOk.f 5000000 a b c l = some true ∧ TXT a b c l = t then (a, b, c, l, true) else bad
theorem rec_same (a b c : Int) (l : List S47) (hl : l.length ≤ 1048576) (k k' : Nat) (hk : 2 * l.length + 2 < k) (hk' : 2 * l.length + 2 < k') : spec_RecordOk.f k a b c l = spec_RecordOk.f k' a b c l := by
  simp only [spec_RecordOk.f, spec_l1Id.f, spec_l1Region.f, in_, spec_sets l hl k hk, spec_sets l hl k' hk']
theorem spec_fin (t : ByteArray) (h0 : t.data.toList ≠ []) (a b c : Int) (l : List S47) (hl : l.length ≤ 1048576) (k : Nat) (hk : 4000000000 < k) :
    ((spec_ShowRecord.f k a b c l).bind fun s => if s.toList = t.toList then some (a, b, c, l, true) else some (0, 0, 0, ([] : List S47), false)) = some (fin_ t.data.toList a b c l) := by
  obtain ⟨r, e1, _⟩ := record_ok a b c l hl k (by omega)
  have e0 := rec_same a b c l hl 5000000 k (by omega) (by omega)
  unfold fin_
  rw [e0, e1, Go.Lib.toList_data]
  cases r with
  | false =>
    have : spec_ShowRecord.f k a b c l = some ⟨#[]⟩ := by simp [spec_ShowRecord.f, e1]
    rw [this, Option.bind_some, if_neg (fun e => h0 (by rw [← e]; rw [Go.Lib.toList_data])), if_neg (by rintro ⟨h, _⟩; cases h)]
    rfl
  | true =>
    obtain ⟨f1, f2, f3, f4, f5⟩ := record_facts a b c l hl k (by omega) e1
    obtain ⟨g1, _⟩ := shown_both a b c l f1 f2 f3 f4 f5 k (by omega)
    have : spec_ShowRecord.f k a b c l = some (mkb (TXT a b c l)) := by simp [spec_ShowRecord.f, e1, g1]
    rw [this, Option.bind_some, bt_toList]
    by_cases h : TXT a b c l = t.data.toList
    · rw [if_pos h, if_pos ⟨rfl, h⟩]
    · rw [if_neg h, if_neg (fun hh => h hh.2)]; rfl
theorem impl_fin (t : ByteArray) (a b c : Int) (l : List S47) (hl : l.length ≤ 1048576) (k : Nat) (hk : 4000000000 < k) :
    ((impl_isRecord.f k a b c l).bind fun q => (if q = true then ((impl_showRecord.f k a b c l).bind fun s => (if s.toList = t.toList then (some (a, b, c, l, true)) else (some (0, 0, 0, ([] : List S47), false)))) else (some (0, 0, 0, ([] : List S47), false)))) = some (fin_ t.data.toList a b c l) := by
  obtain ⟨r, e1, e2⟩ := record_ok a b c l hl k (by omega)
  have e0 := rec_same a b c l hl 5000000 k (by omega) (by omega)
  unfold fin_
  rw [e0, e1, e2, Go.Lib.toList_data, Option.bind_some]
  cases r with
  | false => rw [if_neg (by simp), if_neg (by rintro ⟨h, _⟩; cases h)]; rfl
  | true =>
    obtain ⟨f1, f2, f3, f4, f5⟩ := record_facts a b c l hl k (by omega) e1
    obtain ⟨_, g2⟩ := shown_both a b c l f1 f2 f3 f4 f5 k (by omega)
    rw [if_pos rfl, g2, Option.bind_some, bt_toList]
    by_cases h : TXT a b c l = t.data.toList
    · rw [if_pos h, if_pos ⟨rfl, h⟩]
    · rw [if_neg h, if_neg (fun hh => h hh.2)]; rfl
theorem fin_small (t : List UInt8) (a b c : Int) (l : List S47) (hl : l.length ≤ 1048576) : (fin_ t a b c l).2.2.2.1.length ≤ 12 := by
  unfold fin_
  split
  · rename_i h
    exact (record_facts a b c l hl 5000000 (by omega) h.1).2.2.2.1
  · show ([] : List S47).length ≤ 12
    simp
theorem fin_long (t : List UInt8) (a b c : Int) (l : List S47) (hl : l.length ≤ 1048576) (h : 12 < l.length) : fin_ t a b c l = bad := by
  unfold fin_
  rw [if_neg]
  rintro ⟨h1, _⟩
  have := (record_facts a b c l hl 5000000 (by omega) h1).2.2.2.1
  omega
theorem rd_nat (ns : List Int) (j : Nat) (x : Int) (h : x = (j : Int)) : rd ns x = ns.getD j 0 := by
  subst h
  unfold rd
  rw [Int.toNat_natCast]
theorem drop_atI (l : List Int) (j : Nat) (h : j < l.length) : l.drop j = l.getD j 0 :: l.drop (j + 1) := by
  rw [List.drop_eq_getElem_cons h, List.getD_eq_getElem?_getD, List.getElem?_eq_getElem h]; rfl
theorem spec_sets_read (t : ByteArray) (h0 : t.data.toList ≠ []) (ns : List Int) (hn : 3 ≤ ns.length) (hl : ns.length ≤ 1048577) (a b : Int) : ∀ (d i : Nat) (acc : List S47) (k : Nat), i + 4 * d = ns.length → 4 * acc.length + 4 = i → 4000000001 + d < k →
    spec_ReadRecord.l1 k t ns (i : Int) a b (rd ns 2) acc = some (fin_ t.data.toList a b (rd ns 2) (acc ++ sets (rd ns 2) (ns.drop i))) := by
  intro d
  induction d with
  | zero =>
    intro i acc k hd ha hk
    obtain ⟨k, rfl⟩ : ∃ q, k = q + 1 := ⟨k - 1, by omega⟩
    rw [spec_ReadRecord.l1, if_neg (by omega), show ns.drop i = [] from List.drop_eq_nil_of_le (by omega), sets_nil, List.append_nil]
    exact spec_fin t h0 a b _ acc (by omega) k (by omega)
  | succ d ih =>
    intro i acc k hd ha hk
    obtain ⟨k, rfl⟩ : ∃ q, k = q + 1 := ⟨k - 1, by omega⟩
    rw [spec_ReadRecord.l1, wrap_of (x := (i : Int) + 1) (by omega) (by omega), wrap_of (x := (i : Int) + 2) (by omega) (by omega), wrap_of (x := (i : Int) + 3) (by omega) (by omega), wrap_of (x := (i : Int) + 4) (by omega) (by omega)]
    rw [if_pos (by omega), if_pos (by omega), if_pos (by omega), if_pos (by omega), if_pos (by omega), if_pos (by omega), if_pos (by omega), if_pos (by omega), if_pos (by omega), if_pos (by omega)]
    rw [rd_nat ns i _ rfl, rd_nat ns (i + 1) ((i : Int) + 1) (by omega), rd_nat ns (i + 2) ((i : Int) + 2) (by omega), rd_nat ns (i + 3) ((i : Int) + 3) (by omega)]
    have := ih (i + 4) (acc ++ [(⟨rd ns 2, ns.getD i 0, ns.getD (i + 1) 0, (ns.getD (i + 2) 0 == 1), ns.getD (i + 3) 0⟩ : S47)]) k (by omega) (by simp; omega) (by omega)
    rw [show ((i + 4 : Nat) : Int) = (i : Int) + 4 from by omega] at this
    rw [this, drop_atI ns i (by omega), drop_atI ns (i + 1) (by omega), drop_atI ns (i + 1 + 1) (by omega), drop_atI ns (i + 1 + 1 + 1) (by omega), sets_cons, List.append_assoc]
    rfl
theorem impl_sets_read (a b c : Int) : ∀ (d : Nat) (x : List Int) (acc : List S47) (k : Nat), x.length = 4 * d → acc.length + d ≤ 1000000 → d + 1 < k →
    impl_readRecord.l1 k x a b c acc = some (a, b, c, acc ++ sets c x, true) := by
  intro d
  induction d with
  | zero =>
    intro x acc k hx ha hk
    obtain ⟨k, rfl⟩ : ∃ q, k = q + 1 := ⟨k - 1, by omega⟩
    obtain rfl : x = [] := List.length_eq_zero_iff.1 (by omega)
    rw [impl_readRecord.l1, if_neg (by simp), sets_nil, List.append_nil]
  | succ d ih =>
    intro x acc k hx ha hk
    obtain ⟨k, rfl⟩ : ∃ q, k = q + 1 := ⟨k - 1, by omega⟩
    match x, hx with
    | p :: q :: u :: v :: y, hx =>
      simp only [List.length_cons] at hx
      have := ih y (acc ++ [(⟨c, p, q, (u == 1), v⟩ : S47)]) k (by omega) (by simp; omega) (by omega)
      rw [sets_cons, impl_readRecord.l1]
      rw [if_pos (by simp only [List.length_cons]; omega), if_pos (by simp only [List.length_cons]; omega), if_pos (by simp only [List.length_cons]; omega), if_pos (by simp only [List.length_cons]; omega), if_pos (by simp only [List.length_cons]; omega), if_pos (by omega), if_pos (by simp only [List.length_cons]; omega)]
      rw [show acc ++ (⟨c, p, q, (u == 1), v⟩ :: sets c y) = acc ++ [(⟨c, p, q, (u == 1), v⟩ : S47)] ++ sets c y from by simp, ← this]
      rfl
    | [], h => simp at h
    | [_], h => simp at h; omega
    | [_, _], h => simp at h; omega
    | [_, _, _], h => simp at h; omega
theorem rdOf_map (L : List (List UInt8)) (i : Nat) (h : i < L.length) : rdOf ByteArray.empty (L.map mkb) (i : Int) = mkb L[i] := by
  unfold rdOf
  rw [Int.toNat_natCast, List.getD_eq_getElem?_getD, List.getElem?_eq_getElem (by rw [List.length_map]; exact h)]
  simp
theorem spec_nums (t : ByteArray) (L : List (List UInt8)) (hL : L.length ≤ 1048577) (hw : ∀ w ∈ L, w.length ≤ 1048576) (F : List Int → Int × Int × Int × List S47 × Bool) (K : Nat)
    (hF : ∀ ns k, ns.length = L.length → K < k → (if (ns.length : Int) < 4 then (spec_ReadRecord.j1 k t ns true) else (spec_ReadRecord.j1 k t ns (((ns.length : Int) % 4) != 0))) = some (F ns)) : ∀ (d i : Nat) (acc : List Int) (k : Nat), i + d = L.length → acc.length = i → K + d + 40 < k →
    spec_ReadRecord.l0 k t (L.map mkb) acc (i : Int) = some (match nums (L.drop i) with | none => bad | some ns => F (acc ++ ns)) := by
  intro d
  induction d with
  | zero =>
    intro i acc k hd ha hk
    obtain ⟨k, rfl⟩ : ∃ q, k = q + 1 := ⟨k - 1, by omega⟩
    rw [spec_ReadRecord.l0, List.length_map, if_neg (by omega), show L.drop i = [] from List.drop_eq_nil_of_le (by omega), hF acc k (by omega) (by omega)]
    simp [nums]
  | succ d ih =>
    intro i acc k hd ha hk
    obtain ⟨k, rfl⟩ : ∃ q, k = q + 1 := ⟨k - 1, by omega⟩
    have hi : i < L.length := by omega
    have hwi := hw _ (List.getElem_mem hi)
    rw [spec_ReadRecord.l0, List.length_map, if_pos (by omega), if_pos (by omega), rdOf_map L i hi, spec_num _ (by rw [bt_size]; exact hwi) k (by omega), bt_data, Option.bind_some, List.drop_eq_getElem_cons hi, nums]
    by_cases h : (num L[i]).2 = true
    · rw [if_pos h, if_pos (by omega), if_pos h, wrap_of (x := (i : Int) + 1) (by omega) (by omega)]
      have := ih (i + 1) (acc ++ [(num L[i]).1]) k (by omega) (by simp; omega) (by omega)
      rw [show ((i + 1 : Nat) : Int) = (i : Int) + 1 from by omega] at this
      rw [this]
      cases nums (L.drop (i + 1)) with
      | none => rfl
      | some z => simp
    · rw [if_neg h, if_neg h]; rfl
theorem impl_nums (L : List (List UInt8)) (hL : L.length ≤ 1048577) (hw : ∀ w ∈ L, w.length ≤ 1048576) (F : List Int → Int × Int × Int × List S47 × Bool) (K : Nat)
    (hF : ∀ ns k, ns.length = L.length → K < k → (if 0 < (ns.length : Int) then (if 1 < (ns.length : Int) then (if 2 < (ns.length : Int) then (if 4 ≤ (ns.length : Int) then (impl_readRecord.l1 k (ns.drop (4 : Int).toNat) (rd ns 0) (rd ns 1) (rd ns 2) ([] : List S47)) else (none)) else (none)) else (none)) else (none)) = some (F ns)) : ∀ (d i : Nat) (acc : List Int) (k : Nat), i + d = L.length → acc.length = i → K + d + 40 < k →
    impl_readRecord.l0 k acc (L.map mkb) (L.length : Int) (i : Int) = some (match nums (L.drop i) with | none => bad | some ns => F (acc ++ ns)) := by
  intro d
  induction d with
  | zero =>
    intro i acc k hd ha hk
    obtain ⟨k, rfl⟩ : ∃ q, k = q + 1 := ⟨k - 1, by omega⟩
    rw [impl_readRecord.l0, if_neg (by omega), show L.drop i = [] from List.drop_eq_nil_of_le (by omega), hF acc k (by omega) (by omega)]
    simp [nums]
  | succ d ih =>
    intro i acc k hd ha hk
    obtain ⟨k, rfl⟩ : ∃ q, k = q + 1 := ⟨k - 1, by omega⟩
    have hi : i < L.length := by omega
    have hwi := hw _ (List.getElem_mem hi)
    obtain ⟨v, e1, e2⟩ := impl_num (mkb L[i]) (by rw [bt_size]; exact hwi)
    rw [bt_data] at e1 e2
    rw [impl_readRecord.l0, if_pos (by omega), if_pos (by omega), List.length_map, if_pos (by omega), rdOf_map L i hi, e1, Option.bind_some, List.drop_eq_getElem_cons hi, nums]
    by_cases h : (num L[i]).2 = true
    · rw [if_pos h, if_pos (by omega), if_pos h, wrap_of (x := (i : Int) + 1) (by omega) (by omega), e2 h]
      have := ih (i + 1) (acc ++ [(num L[i]).1]) k (by omega) (by simp; omega) (by omega)
      rw [show ((i + 1 : Nat) : Int) = (i : Int) + 1 from by omega] at this
      rw [this]
      cases nums (L.drop (i + 1)) with
      | none => rfl
      | some z => simp
    · rw [if_neg h, if_neg h]; rfl
def RES (t : List UInt8) : Int × Int × Int × List S47 × Bool := match nums (wsplit [] t) with
  | none => bad
  | some ns => if ns.length % 4 = 0 then fin_ t (rd ns 0) (rd ns 1) (rd ns 2) (sets (rd ns 2) (ns.drop 4)) else bad
theorem spec_read (t : ByteArray) (ht : t.size ≤ 1048576) (k : Nat) (hk : 4010000000 < k) : spec_ReadRecord.f k t = some (RES t.data.toList) := by
  have hz : t.size = t.data.toList.length := Go.Lib.size_eq t
  obtain ⟨w1, w2⟩ := wsplit_len t.data.toList []
  unfold spec_ReadRecord.f
  rw [spec_words t ht k (by omega), Option.bind_some]
  by_cases h0 : t.data.toList = []
  · obtain ⟨k, rfl⟩ : ∃ q, k = q + 1 := ⟨k - 1, by omega⟩
    have hn : num [] = (0, false) := by unfold num; rw [if_pos (Or.inl (by simp))]
    rw [h0]
    show spec_ReadRecord.l0 (k + 1) t [mkb []] [] 0 = some bad
    rw [spec_ReadRecord.l0, if_pos (by simp), if_pos (by omega)]
    show ((spec_l2Number.f k (mkb [])).bind _) = _
    rw [spec_num _ (by rw [bt_size]; simp) k (by omega), bt_data, hn]
    rfl
  · have := spec_nums t (wsplit [] t.data.toList) (by omega) (fun w hw => by have := wsplit_word _ _ _ hw; simp only [List.length_nil] at this; omega)
      (fun ns => if ns.length % 4 = 0 then fin_ t.data.toList (rd ns 0) (rd ns 1) (rd ns 2) (sets (rd ns 2) (ns.drop 4)) else bad) 4005000000 (fun ns k hn hk => by
        obtain ⟨k, rfl⟩ : ∃ q, k = q + 1 := ⟨k - 1, by omega⟩
        by_cases h4 : ns.length % 4 = 0
        · rw [if_neg (by omega), if_pos h4, spec_ReadRecord.j1, if_neg (by simp; omega), if_pos (by omega), if_pos (by omega), if_pos (by omega)]
          have := spec_sets_read t h0 ns (by omega) (by omega) (rd ns 0) (rd ns 1) (ns.length / 4 - 1) 4 [] k (by omega) rfl (by omega)
          exact this
        · rw [if_neg h4]
          by_cases h5 : (ns.length : Int) < 4
          · rw [if_pos h5, spec_ReadRecord.j1, if_pos rfl]; rfl
          · rw [if_neg h5, spec_ReadRecord.j1, if_pos (by simp; omega)]; rfl) (wsplit [] t.data.toList).length 0 [] k (by omega) rfl (by omega)
    rw [show ((0 : Nat) : Int) = 0 from rfl] at this
    rw [this, List.drop_zero]
    rfl
theorem impl_read (t : ByteArray) (ht : t.size ≤ 1048576) (k : Nat) (hk : 4010000000 < k) : impl_ReadRecord.f k t = some (RES t.data.toList) := by
  have hz : t.size = t.data.toList.length := Go.Lib.size_eq t
  obtain ⟨w1, w2⟩ := wsplit_len t.data.toList []
  have hwd : ∀ w ∈ wsplit [] t.data.toList, w.length ≤ 1048576 := fun w hw => by have := wsplit_word _ _ _ hw; simp only [List.length_nil] at this; omega
  have rr : ∃ q, impl_readRecord.f k ((wsplit [] t.data.toList).map mkb) = some q ∧ ((q.2.2.2.2 = false ∧ RES t.data.toList = bad) ∨ (q.2.2.2.2 = true ∧ q.2.2.2.1.length ≤ 1048576 ∧ RES t.data.toList = fin_ t.data.toList q.1 q.2.1 q.2.2.1 q.2.2.2.1)) := by
    obtain ⟨k, rfl⟩ : ∃ q, k = q + 1 := ⟨k - 1, by omega⟩
    have hres : ∀ ns, nums (wsplit [] t.data.toList) = some ns → ns.length = (wsplit [] t.data.toList).length ∧ RES t.data.toList = if ns.length % 4 = 0 then fin_ t.data.toList (rd ns 0) (rd ns 1) (rd ns 2) (sets (rd ns 2) (ns.drop 4)) else bad := fun ns h => ⟨nums_len _ _ h, by unfold RES; rw [h]⟩
    have hnone : nums (wsplit [] t.data.toList) = none → RES t.data.toList = bad := fun h => by unfold RES; rw [h]
    have hsl : ∀ ns : List Int, ns.length = (wsplit [] t.data.toList).length → ns.length % 4 = 0 → (sets (rd ns 2) (ns.drop 4)).length = ns.length / 4 - 1 := fun ns h1 h2 => sets_len _ _ _ (by rw [List.length_drop]; omega)
    unfold impl_readRecord.f
    rw [List.length_map]
    by_cases h52 : ((wsplit [] t.data.toList).length : Int) > 52
    · rw [if_pos h52, impl_readRecord.j0, if_pos rfl]
      refine ⟨_, rfl, Or.inl ⟨rfl, ?_⟩⟩
      cases hn : nums (wsplit [] t.data.toList) with
      | none => exact hnone hn
      | some ns =>
        obtain ⟨g1, g2⟩ := hres ns hn
        rw [g2]
        by_cases h4 : ns.length % 4 = 0
        · rw [if_pos h4, fin_long _ _ _ _ _ (by rw [hsl ns g1 h4]; omega) (by rw [hsl ns g1 h4]; omega)]
        · rw [if_neg h4]
    · rw [if_neg h52, impl_readRecord.j0]
      by_cases h4 : (wsplit [] t.data.toList).length % 4 = 0
      · rw [if_neg (by simp; omega), List.length_map]
        have := impl_nums (wsplit [] t.data.toList) (by omega) hwd (fun ns => (rd ns 0, rd ns 1, rd ns 2, sets (rd ns 2) (ns.drop 4), true)) 100 (fun ns k hn hk => by
          rw [if_pos (by omega), if_pos (by omega), if_pos (by omega), if_pos (by omega)]
          exact impl_sets_read (rd ns 0) (rd ns 1) (rd ns 2) (ns.length / 4 - 1) (ns.drop 4) [] k (by rw [List.length_drop]; omega) (by simp; omega) (by omega)) (wsplit [] t.data.toList).length 0 [] k (by omega) rfl (by omega)
        rw [show ((0 : Nat) : Int) = 0 from rfl, List.drop_zero] at this
        rw [this]
        cases hn : nums (wsplit [] t.data.toList) with
        | none => exact ⟨_, rfl, Or.inl ⟨rfl, hnone hn⟩⟩
        | some ns =>
          obtain ⟨g1, g2⟩ := hres ns hn
          refine ⟨_, rfl, Or.inr ⟨rfl, ?_, ?_⟩⟩
          · show (sets (rd ns 2) (ns.drop 4)).length ≤ _
            rw [hsl ns g1 (by omega)]; omega
          · rw [g2, if_pos (by omega)]; rfl
      · rw [if_pos (by simp; omega)]
        refine ⟨_, rfl, Or.inl ⟨rfl, ?_⟩⟩
        cases hn : nums (wsplit [] t.data.toList) with
        | none => exact hnone hn
        | some ns =>
          obtain ⟨g1, g2⟩ := hres ns hn
          rw [g2, if_neg (by omega)]
  unfold impl_ReadRecord.f strings_Split.f
  rw [if_pos (by omega), if_pos (by decide), words_impl t, Option.bind_some]
  obtain ⟨⟨q1, q2, q3, q4, q5⟩, e, h⟩ := rr
  rw [e, Option.bind_some]
  rcases h with ⟨h1, h2⟩ | ⟨h1, h2, h3⟩
  · simp only at h1
    subst h1
    rw [h2, if_neg (by simp)]; rfl
  · simp only at h1 h2 h3
    subst h1
    rw [h3, if_pos rfl]
    exact impl_fin t q1 q2 q3 q4 h2 k (by omega)
theorem res_small (t : List UInt8) (ht : t.length ≤ 1048576) : (RES t).2.2.2.1.length ≤ 12 := by
  obtain ⟨w1, w2⟩ := wsplit_len t []
  unfold RES
  cases hn : nums (wsplit [] t) with
  | none => show ([] : List S47).length ≤ 12; simp
  | some ns =>
    have hl := nums_len _ _ hn
    simp only
    split
    · rename_i h4
      exact fin_small _ _ _ _ _ (by rw [sets_len _ (ns.length / 4 - 1) _ (by rw [List.length_drop]; omega)]; omega)
    · show ([] : List S47).length ≤ 12; simp
/-! ### the round trip -/
theorem dval_dec : ∀ m : Nat, dval 0 (Go.Lib.decDigits m) = m := by
  intro m
  induction m using Nat.strongRecOn with
  | _ m ih =>
    rw [Go.Lib.decDigits.eq_def]
    by_cases h : m < 10
    · rw [dif_pos h, dval_cons]
      have e : (UInt8.ofNat (48 + m)).toNat = 48 + m := by rw [UInt8.toNat_ofNat']; omega
      rw [e]
      show 0 * 10 + (48 + m - 48) = m
      omega
    · rw [dif_neg h, dval_snoc, ih (m / 10) (by omega)]
      have e : (UInt8.ofNat (48 + m % 10)).toNat = 48 + m % 10 := by rw [UInt8.toNat_ofNat']; omega
      rw [e]
      omega
theorem dec_len : ∀ (d m : Nat), m < 10 ^ (d + 1) → (Go.Lib.decDigits m).length ≤ d + 1 := by
  intro d
  induction d with
  | zero => intro m h; rw [Go.Lib.decDigits.eq_def, dif_pos (by omega)]; simp
  | succ d ih =>
    intro m h
    rw [Go.Lib.decDigits.eq_def]
    by_cases h1 : m < 10
    · rw [dif_pos h1]; simp
    · have hp : 10 ^ (d + 1 + 1) = 10 ^ (d + 1) * 10 := Nat.pow_succ ..
      have := ih (m / 10) (by omega)
      rw [dif_neg h1, List.length_append, List.length_singleton]; omega
theorem num_itoa (n : Int) (h : n.natAbs ≤ 1000000000) : num (Go.Lib.itoa n) = (n, true) := by
  have hl : (Go.Lib.decDigits n.natAbs).length ≤ 10 := dec_len 9 n.natAbs (by omega)
  obtain ⟨f1, f2, f3⟩ := dec_facts n.natAbs
  have hne := List.length_pos_iff.2 f1
  by_cases h0 : n < 0
  · have e : Go.Lib.itoa n = 45 :: Go.Lib.decDigits n.natAbs := by unfold Go.Lib.itoa; rw [if_pos h0]
    have hn : isneg (Go.Lib.itoa n) = true := by rw [e]; rfl
    have hs : sgn (Go.Lib.itoa n) = 1 := by unfold sgn; rw [hn]; rfl
    have hd : (Go.Lib.itoa n).drop 1 = Go.Lib.decDigits n.natAbs := by rw [e]; rfl
    have hlen : (Go.Lib.itoa n).length = (Go.Lib.decDigits n.natAbs).length + 1 := by rw [e]; rfl
    unfold num
    rw [hs, if_neg (by omega), hd, if_pos f2, dval_dec, hn]
    unfold fin
    rw [if_neg]
    · simp only [if_true]; congr 1; omega
    · rintro ⟨hh, _⟩
      rw [e] at hh
      exact f3 (by omega) (by simpa using hh)
  · have e : Go.Lib.itoa n = Go.Lib.decDigits n.natAbs := by unfold Go.Lib.itoa; rw [if_neg h0]; congr 1; omega
    have hn : isneg (Go.Lib.itoa n) = false := by
      rw [e]
      unfold isneg
      cases hd : Go.Lib.decDigits n.natAbs with
      | nil => exact absurd hd f1
      | cons x q =>
        rw [hd, List.all_cons, Bool.and_eq_true] at f2
        have h2 := f2.1
        simp only [isd, Bool.and_eq_true, decide_eq_true_eq] at h2
        rw [decide_eq_false_iff_not]
        intro e
        have e : x = 45 := by simpa using e
        subst e
        exact absurd h2.1 (by decide)
    have hs : sgn (Go.Lib.itoa n) = 0 := by unfold sgn; rw [hn]; rfl
    unfold num
    rw [hs, List.drop_zero, if_neg (by rw [e]; omega), hn, e, if_pos f2, dval_dec]
    unfold fin
    rw [if_neg]
    · simp only [Bool.false_eq_true, if_false]; congr 1; omega
    · rintro ⟨hh, h1⟩
      by_cases hz : n.natAbs = 0
      · rw [hz] at h1
        rcases h1 with h1 | h1
        · cases h1
        · rw [Go.Lib.decDigits.eq_def] at h1; simp at h1
      · exact f3 hz hh
theorem itoa_no32 (n : Int) : (32 : UInt8) ∉ Go.Lib.itoa n := by
  obtain ⟨_, f2, _⟩ := dec_facts n.natAbs
  have hd : (32 : UInt8) ∉ Go.Lib.decDigits n.natAbs := fun h => by
    have := List.all_eq_true.1 f2 32 h
    exact absurd this (by decide)
  unfold Go.Lib.itoa
  split
  · intro h
    rcases List.mem_cons.1 h with h | h
    · exact absurd h (by decide)
    · exact hd h
  · have e : n.toNat = n.natAbs := by omega
    rw [e]; exact hd
theorem wsplit_join : ∀ (r : List (List UInt8)) (x : List UInt8), 32 ∉ x → (∀ y ∈ r, 32 ∉ y) → wsplit [] (Go.Lib.join (x :: r) [32]) = x :: r := by
  intro r
  induction r with
  | nil => intro x hx _; rw [Go.Lib.join_one, wsplit_none _ _ hx]; rfl
  | cons y r ih =>
    intro x hx hr
    have e : Go.Lib.join (x :: y :: r) [32] = x ++ 32 :: Go.Lib.join (y :: r) [32] := by
      rw [Go.Lib.join_cons, Go.Lib.join_cons]
      simp [Go.Lib.joinTail]
    rw [e, wsplit_hit _ _ _ hx, ih y (hr y (by simp)) (fun z hz => hr z (by simp [hz]))]
    rfl
theorem nums_itoa : ∀ N : List Int, (∀ x ∈ N, x.natAbs ≤ 1000000000) → nums (N.map Go.Lib.itoa) = some N := by
  intro N
  induction N with
  | nil => intro _; rfl
  | cons x r ih =>
    intro h
    rw [List.map_cons, nums, num_itoa x (h x (by simp)), if_pos rfl, ih (fun y hy => h y (by simp [hy]))]
    rfl
def b2i (b : Bool) : Int := if b = true then 1 else 0
theorem uw_itoa (b : Bool) : uw b = Go.Lib.itoa (b2i b) := by
  cases b
  · show [48] = Go.Lib.itoa 0
    unfold Go.Lib.itoa; rw [if_neg (by omega)]; show [48] = Go.Lib.decDigits 0; rw [Go.Lib.decDigits.eq_def]; rfl
  · show [49] = Go.Lib.itoa 1
    unfold Go.Lib.itoa; rw [if_neg (by omega)]; show [49] = Go.Lib.decDigits 1; rw [Go.Lib.decDigits.eq_def]; rfl
def flat (l : List S47) : List Int := l.flatMap fun s => [s.f1, s.f2, b2i s.f3, s.f4]
theorem flat_words (l : List S47) : (l.flatMap w4).map (·.data.toList) = (flat l).map Go.Lib.itoa := by
  induction l with
  | nil => rfl
  | cons s r ih =>
    unfold flat at ih ⊢
    rw [List.flatMap_cons, List.map_append, ih, List.flatMap_cons, List.map_append]
    simp [w4, bt_data, uw_itoa]
theorem sets_flat (c : Int) : ∀ l : List S47, (∀ s ∈ l, s.f0 = c) → sets c (flat l) = l := by
  intro l
  induction l with
  | nil => intro _; exact sets_nil c
  | cons s r ih =>
    intro h
    have e : flat (s :: r) = s.f1 :: s.f2 :: b2i s.f3 :: s.f4 :: flat r := rfl
    rw [e, sets_cons, ih (fun z hz => h z (by simp [hz]))]
    have hc := h s (by simp)
    congr 1
    cases s with
    | mk f0 f1 f2 f3 f4 => simp only at hc ⊢; subst hc; congr 1; cases f3 <;> rfl
theorem flat_len (l : List S47) : (flat l).length = 4 * l.length := by
  induction l with
  | nil => rfl
  | cons s r ih => unfold flat at ih ⊢; rw [List.flatMap_cons, List.length_append, ih, List.length_cons]; simp; omega
theorem round_trip (a b c : Int) (l : List S47) (hl : l.length ≤ 1048576) (h : spec_RecordOk.f 5000000 a b c l = some true) (hreg : ∀ s ∈ l, s.f0 = c) : RES (TXT a b c l) = (a, b, c, l, true) := by
  obtain ⟨f1, f2, f3, f4, f5⟩ := record_facts a b c l hl 5000000 (by omega) h
  have hok : ∀ x ∈ l, okS x = true := fun x hx => by
    obtain ⟨j, hj, rfl⟩ := List.mem_iff_getElem.1 hx
    have := okSs_each l l.length 0 f5 j (by omega) (by omega)
    rwa [rd47_get hj] at this
  have hT : TXT a b c l = Go.Lib.join (([a, b, c, (l.length : Int)] ++ flat l).map Go.Lib.itoa) [32] := by
    unfold TXT J
    rw [List.map_append, flat_words, List.map_append]
    simp [bt_data]
  have hall : ∀ x ∈ ([a, b, c, (l.length : Int)] ++ flat l), x.natAbs ≤ 1000000000 := by
    intro x hx
    rcases List.mem_append.1 hx with hx | hx
    · simp only [List.mem_cons, List.not_mem_nil, or_false] at hx
      rcases hx with rfl | rfl | rfl | rfl <;> omega
    · unfold flat at hx
      obtain ⟨s, hs, hx⟩ := List.mem_flatMap.1 hx
      obtain ⟨g1, g2, g3⟩ := okS_small (hok s hs)
      simp only [List.mem_cons, List.not_mem_nil, or_false] at hx
      rcases hx with rfl | rfl | rfl | rfl
      · exact g1
      · exact g2
      · unfold b2i; split <;> decide
      · exact g3
  have hw : wsplit [] (TXT a b c l) = ([a, b, c, (l.length : Int)] ++ flat l).map Go.Lib.itoa := by
    rw [hT]
    exact wsplit_join _ _ (itoa_no32 a) (fun y hy => by
      obtain ⟨z, _, rfl⟩ := List.mem_map.1 (show y ∈ ([b, c, (l.length : Int)] ++ flat l).map Go.Lib.itoa from hy)
      exact itoa_no32 z)
  unfold RES
  rw [hw, nums_itoa _ hall]
  simp only
  rw [if_pos (by rw [List.length_append, flat_len]; simp)]
  show fin_ (TXT a b c l) a b c (sets c (flat l)) = _
  rw [sets_flat c l hreg]
  unfold fin_
  rw [if_pos ⟨h, rfl⟩]
theorem record_region (a b c : Int) (l : List S47) (hl : l.length ≤ 1048576) (k : Nat) (hk : 2 * l.length + 2 < k) (h : spec_RecordOk.f k a b c l = some true) : 1 ≤ l.length ∧ ∀ s ∈ l, s.f0 = c := by
  obtain ⟨f1, f2, f3, f4, f5⟩ := record_facts a b c l hl k hk h
  have h' := h
  simp only [spec_RecordOk.f, spec_l1Id.f, spec_l1Region.f, in_, spec_sets l hl k hk, Option.bind_some, decide_eq_true f1, decide_eq_true f2, decide_eq_true f3, if_true, f5] at h'
  by_cases h4 : (l.length : Int) ≥ 1
  · rw [if_pos h4, if_pos (by omega), if_pos (by omega)] at h'
    have h0 : (rd_T47 l 0).f0 = c := by simpa using h'
    refine ⟨by omega, fun s hs => ?_⟩
    obtain ⟨j, hj, rfl⟩ := List.mem_iff_getElem.1 hs
    have := okSs_reg l l.length 0 f5 j (by omega) (by omega)
    rw [rd47_get hj] at this
    exact this.trans h0
  · rw [if_neg h4] at h'
    simp at h'
theorem round_trip' (a b c : Int) (l : List S47) (hl : l.length ≤ 1048576) (k : Nat) (hk : 2 * l.length + 2 < k) (h : spec_RecordOk.f k a b c l = some true) : RES (TXT a b c l) = (a, b, c, l, true) := by
  have e := rec_same a b c l hl 5000000 k (by
    obtain ⟨_, _, _, f4, _⟩ := record_facts a b c l hl k hk h
    omega) hk
  exact round_trip a b c l hl (e.trans h) (record_region a b c l hl k hk h).2
theorem txt_ne (a b c : Int) (l : List S47) : TXT a b c l ≠ [] := by
  intro h
  have hT : TXT a b c l = Go.Lib.join (([a, b, c, (l.length : Int)] ++ flat l).map Go.Lib.itoa) [32] := by
    unfold TXT J
    rw [List.map_append, flat_words, List.map_append]
    simp [bt_data]
  have h2 := wsplit_join (([b, c, (l.length : Int)] ++ flat l).map Go.Lib.itoa) (Go.Lib.itoa a) (itoa_no32 a) (fun y hy => by
    obtain ⟨z, _, rfl⟩ := List.mem_map.1 hy
    exact itoa_no32 z)
  have h3 : Go.Lib.join (Go.Lib.itoa a :: ([b, c, (l.length : Int)] ++ flat l).map Go.Lib.itoa) [32] = [] := hT.symm.trans h
  rw [h3] at h2
  have := congrArg List.length h2
  simp [wsplit] at this
/-! ### numbers of any size -/
theorem digit_of2 (x : Int) (h : x.natAbs ≤ 9223372036854775808) : (if Int.tmod x 10 < 0 then [(wrap64 (48 + (wrap64 (-(Int.tmod x 10))))) % 256] else [(wrap64 (48 + (Int.tmod x 10))) % 256]) = ([((48 + x.natAbs % 10 : Nat) : Int)] : List Int) := by
  have e : (Int.tmod x 10).natAbs = x.natAbs % 10 := by rw [Int.natAbs_tmod]; rfl
  by_cases h0 : Int.tmod x 10 < 0
  · rw [if_pos h0, wrap_of (x := -(Int.tmod x 10)) (by omega) (by omega), wrap_of (by omega) (by omega)]
    congr 1
    omega
  · rw [if_neg h0, wrap_of (by omega) (by omega)]
    congr 1
    omega
theorem l2_loop2 (neg : Bool) : ∀ (m : Nat) (x : Int) (acc : List UInt8) (k : Nat), x.natAbs = m → m ≤ 1000000000000000000 → acc ≠ [] → acc.length + 2 * m ≤ 9000000000000000000 → 2 * m + 4 < k →
    spec_l2Int.l0 k x (mkb acc) neg = some (mkb (head neg ++ ((if m = 0 then [] else Go.Lib.decDigits m) ++ acc))) := by
  intro m
  induction m using Nat.strongRecOn with
  | _ m ih =>
    intro x acc k hx hm ha hs hk
    obtain ⟨k, rfl⟩ : ∃ z, k = z + 1 + 1 := ⟨k - 2, by omega⟩
    simp only [spec_l2Int.l0, bt_toList]
    rw [if_neg ha]
    simp only [spec_l2Int.j1]
    by_cases h0 : m = 0
    · have e0 : x = 0 := by omega
      subst e0
      rw [if_neg (show ¬ ((0 : Int) != 0) = true by simp), if_pos h0, List.nil_append]
      cases neg
      · rfl
      · rw [if_pos rfl, if_pos (by rw [bt_size]; omega)]
        show some (mkb [45] ++ mkb acc) = _
        rw [bt_append]; rfl
    · have hne : (x != 0) = true := by simp; omega
      rw [if_pos hne, if_neg h0]
      have e1 : (Int.tdiv x 10).natAbs = m / 10 := by rw [Int.natAbs_tdiv, hx]; rfl
      have ew : wrap64 (Int.tdiv x 10) = Int.tdiv x 10 := wrap_of (by omega) (by omega)
      have es : strOfNums [((48 + m % 10 : Nat) : Int)] = mkb [UInt8.ofNat (48 + m % 10)] := by simp only [strOfNums, mkb, List.map_cons, List.map_nil, Int.toNat_natCast]
      have hd := digit_of2 x (by omega)
      rw [hx] at hd
      have rest := ih (m / 10) (by omega) (Int.tdiv x 10) (UInt8.ofNat (48 + m % 10) :: acc) (k) e1 (by omega) (by simp) (by simp; omega) (by omega)
      have fin : (if m / 10 = 0 then [] else Go.Lib.decDigits (m / 10)) ++ (UInt8.ofNat (48 + m % 10) :: acc) = Go.Lib.decDigits m ++ acc := by
        rw [Go.Lib.decDigits.eq_def m]
        by_cases hs : m < 10
        · have : m / 10 = 0 := by omega
          have e2 : m % 10 = m := by omega
          rw [if_pos this, dif_pos hs, e2]; rfl
        · have : ¬ m / 10 = 0 := by omega
          rw [if_neg this, dif_neg hs, List.append_assoc]; rfl
      rw [fin] at rest
      by_cases hn : Int.tmod x 10 < 0
      · rw [if_pos hn] at hd
        rw [if_pos hn]
        simp only [Option.bind_some, hd, es, ew]
        rw [if_pos (by rw [bt_size, bt_size]; simp; omega), bt_append]
        exact rest
      · rw [if_neg hn] at hd
        rw [if_neg hn]
        simp only [Option.bind_some, hd, es, ew]
        rw [if_pos (by rw [bt_size, bt_size]; simp; omega), bt_append]
        exact rest
theorem l2Int_any (n : Int) (h : n.natAbs ≤ 9223372036854775808) (k : Nat) (hk : 2 * n.natAbs + 10 < k) : spec_l2Int.f k n = some (mkb (Go.Lib.itoa n)) := by
  obtain ⟨k, rfl⟩ : ∃ z, k = z + 1 + 1 := ⟨k - 2, by omega⟩
  obtain ⟨m, hm⟩ : ∃ m, n.natAbs = m := ⟨_, rfl⟩
  rw [hm] at h hk
  have hd := digit_of2 n (by omega)
  rw [hm] at hd
  have e1 : (Int.tdiv n 10).natAbs = m / 10 := by rw [Int.natAbs_tdiv, hm]; rfl
  have ew : wrap64 (Int.tdiv n 10) = Int.tdiv n 10 := wrap_of (by omega) (by omega)
  have es : strOfNums [((48 + m % 10 : Nat) : Int)] = mkb [UInt8.ofNat (48 + m % 10)] := by simp only [strOfNums, mkb, List.map_cons, List.map_nil, Int.toNat_natCast]
  have rest := l2_loop2 (decide (n < 0)) (m / 10) (Int.tdiv n 10) [UInt8.ofNat (48 + m % 10)] k e1 (by omega) (by simp) (by simp; omega) (by omega)
  have fin : (if m / 10 = 0 then [] else Go.Lib.decDigits (m / 10)) ++ [UInt8.ofNat (48 + m % 10)] = Go.Lib.decDigits m := by
    rw [Go.Lib.decDigits.eq_def m]
    by_cases hs : m < 10
    · have : m / 10 = 0 := by omega
      have e2 : m % 10 = m := by omega
      rw [if_pos this, dif_pos hs, e2]; rfl
    · have : ¬ m / 10 = 0 := by omega
      rw [if_neg this, dif_neg hs]
  rw [fin] at rest
  have top : head (decide (n < 0)) ++ Go.Lib.decDigits m = Go.Lib.itoa n := by
    unfold head Go.Lib.itoa
    by_cases hn : n < 0
    · rw [if_pos (by simpa using hn), if_pos hn, hm]; rfl
    · rw [if_neg (by simpa using hn), if_neg hn, show n.toNat = m by omega]; rfl
  rw [top] at rest
  have e0 : (⟨#[]⟩ : ByteArray) = mkb [] := rfl
  simp only [spec_l2Int.f, spec_l2Int.l0, e0, bt_toList, if_true, spec_l2Int.j1]
  by_cases hn : Int.tmod n 10 < 0
  · rw [if_pos hn] at hd
    rw [if_pos hn]
    simp only [Option.bind_some, hd, es, ew]
    rw [if_pos (by rw [bt_size, bt_size]; simp), bt_append]
    exact rest
  · rw [if_neg hn] at hd
    rw [if_neg hn]
    simp only [Option.bind_some, hd, es, ew]
    rw [if_pos (by rw [bt_size, bt_size]; simp), bt_append]
    exact rest
/-- An int64. -/
def i64 (n : Int) : Prop := -9223372036854775808 ≤ n ∧ n ≤ 9223372036854775807
theorem l2Int_i64 (n : Int) (h : i64 n) (k : Nat) (hk : 20000000000000000000 < k) : ∃ s, spec_l2Int.f k n = some s ∧ s.size ≤ 21 := by
  obtain ⟨h1, h2⟩ := h
  exact ⟨_, l2Int_any n (by omega) k (by omega), by rw [bt_size]; exact Go.Lib.itoa_length_le n h1 h2⟩
theorem show_from (a b c : Int) (l : List S47) (hl : l.length ≤ 100) (hf : ∀ x ∈ l, i64 x.f1 ∧ i64 x.f2 ∧ i64 x.f4) : ∀ d (i : Nat) (x : ByteArray) (k : Nat), i + d = l.length → x.size ≤ 100 + 90 * i → 20000000000000000000 + d + 2 < k →
    ∃ s, spec_l2Show.l0 k x (i : Int) a b c l = some s ∧ s.size ≤ 100 + 90 * l.length := by
  intro d
  induction d with
  | zero =>
    intro i x k hd hx hk
    obtain ⟨k, rfl⟩ : ∃ q, k = q + 1 := ⟨k - 1, by omega⟩
    exact ⟨x, by rw [spec_l2Show.l0, if_neg (by omega)], by omega⟩
  | succ d ih =>
    intro i x k hd hx hk
    obtain ⟨k, rfl⟩ : ∃ q, k = q + 1 := ⟨k - 1, by omega⟩
    have hi : i < l.length := by omega
    obtain ⟨g1, g2, g3⟩ := hf _ (List.getElem_mem hi)
    obtain ⟨s1, e1, z1⟩ := l2Int_i64 _ g1 k (by omega)
    obtain ⟨s2, e2, z2⟩ := l2Int_i64 _ g2 k (by omega)
    obtain ⟨s3, e3, z3⟩ := l2Int_i64 _ g3 k (by omega)
    have q1 : (⟨#[32]⟩ : ByteArray).size = 1 := rfl
    have q2 : (⟨#[32, 49, 32]⟩ : ByteArray).size = 3 := rfl
    have q3 : (⟨#[32, 48, 32]⟩ : ByteArray).size = 3 := rfl
    rw [spec_l2Show.l0, if_pos (by omega), if_pos (by omega), rd47_get hi, e1, e2, e3, wrap_of (x := (i : Int) + 1) (by omega) (by omega)]
    simp only [Option.bind_some, ByteArray.size_append, q1, q2, q3]
    have n1 := ih (i + 1) (((((x ++ (⟨#[32]⟩ : ByteArray)) ++ s1) ++ (⟨#[32]⟩ : ByteArray)) ++ s2) ++ (⟨#[32, 49, 32]⟩ : ByteArray) ++ s3) k (by omega) (by simp only [ByteArray.size_append, q1, q2, q3]; omega) (by omega)
    have n2 := ih (i + 1) (((((x ++ (⟨#[32]⟩ : ByteArray)) ++ s1) ++ (⟨#[32]⟩ : ByteArray)) ++ s2) ++ (⟨#[32, 48, 32]⟩ : ByteArray) ++ s3) k (by omega) (by simp only [ByteArray.size_append, q1, q2, q3]; omega) (by omega)
    rw [show ((i + 1 : Nat) : Int) = (i : Int) + 1 from by omega] at n1 n2
    split
    · rw [if_pos (by omega), if_pos (by omega), if_pos (by omega), if_pos (by omega), if_pos (by omega), if_pos (by omega)]
      exact n1
    · rw [if_pos (by omega), if_pos (by omega), if_pos (by omega), if_pos (by omega), if_pos (by omega), if_pos (by omega)]
      exact n2
theorem show_any (a b c : Int) (l : List S47) (ha : i64 a) (hb : i64 b) (hc : i64 c) (hl : l.length ≤ 100) (hf : ∀ x ∈ l, i64 x.f1 ∧ i64 x.f2 ∧ i64 x.f4) (k : Nat) (hk : 20000000000000000200 < k) : ∃ s, spec_l2Show.f k a b c l = some s ∧ s.size ≤ 10000 := by
  obtain ⟨s1, e1, z1⟩ := l2Int_i64 _ ha k (by omega)
  obtain ⟨s2, e2, z2⟩ := l2Int_i64 _ hb k (by omega)
  obtain ⟨s3, e3, z3⟩ := l2Int_i64 _ hc k (by omega)
  obtain ⟨s4, e4, z4⟩ := l2Int_i64 (l.length : Int) ⟨by omega, by omega⟩ k (by omega)
  have q1 : (⟨#[32]⟩ : ByteArray).size = 1 := rfl
  obtain ⟨s, e, z⟩ := show_from a b c l hl hf l.length 0 ((((((s1 ++ (⟨#[32]⟩ : ByteArray)) ++ s2) ++ (⟨#[32]⟩ : ByteArray)) ++ s3) ++ (⟨#[32]⟩ : ByteArray)) ++ s4) k (by omega) (by simp only [ByteArray.size_append, q1]; omega) (by omega)
  refine ⟨s, ?_, by omega⟩
  unfold spec_l2Show.f
  rw [e1, e2, e3, e4]
  simp only [Option.bind_some, ByteArray.size_append, q1]
  rw [if_pos (by omega), if_pos (by omega), if_pos (by omega), if_pos (by omega), if_pos (by omega), if_pos (by omega)]
  exact e
theorem new_ok (l : List Int) (hl : l.length ≤ maxLen) (k : Nat) (hk : l.length < k) : ∃ h, spec_l1New.f k l = some (l, 0, h) := by
  unfold maxLen at hl
  obtain ⟨r, ⟨h, rfl⟩, e⟩ := loop_inv (fun k (s : Int × Int) => spec_l1New.l0 k l s.1 s.2) (fun i s => s.2 = (i : Int)) (fun r => ∃ h, r = (l, 0, h)) l.length 0
    (fun k i s _ hi hP => .inl ⟨(Go.bits .and .i64 (wrap64 ((wrap64 ((wrap64 (s.1 * 137)) + (wrap64 (rd l s.2)))) + 11)) 1073741823, wrap64 (s.2 + 1)), by
      show wrap64 (s.2 + 1) = ((i + 1 : Nat) : Int)
      rw [hP, wrap_of (by omega) (by omega)]; omega, by
      show spec_l1New.l0 (k + 1) l s.1 s.2 = _
      simp only [spec_l1New.l0]
      rw [if_pos (by omega), if_pos (by omega)]⟩)
    (fun k s _ hP => ⟨_, ⟨s.1, rfl⟩, by
      show spec_l1New.l0 (k + 1) l s.1 s.2 = _
      simp only [spec_l1New.l0]
      rw [if_neg (by omega)]⟩) l.length 0 k (wrap64 (101027 + (l.length : Int)), 0) (by omega) (by omega) rfl
  exact ⟨h, e⟩
theorem byte_ok (l : List Int) (hl : l.length ≤ maxLen) (i h : Int) (hi : 0 ≤ i) : Ok (fun r : Int × Int × Int => 0 ≤ r.1 ∧ r.1 ≤ 255 ∧ 0 ≤ r.2.1) (spec_l1Byte.f l i h) := by
  unfold maxLen at hl
  unfold spec_l1Byte.f
  refine Ok.ite (fun h1 => Ok.pos hi (Ok.ret ?_)) (fun _ => Ok.ret ?_)
  · simp only [and255]
    refine ⟨by omega, by omega, ?_⟩
    rw [wrap_of (by omega) (by omega)]; omega
  · simp only [and255]
    exact ⟨by omega, by omega, hi⟩
theorem below_ok (l : List Int) (hl : l.length ≤ maxLen) (i h : Int) (hi : 0 ≤ i) (n : Int) : Ok (fun r : Int × Int × Int => 0 ≤ r.1 ∧ (0 < n → r.1 < n) ∧ (n ≤ 0 → r.1 = 0) ∧ 0 ≤ r.2.1) (spec_l1Below.f l i h n) := by
  unfold spec_l1Below.f
  refine Ok.ite (fun h1 => Ok.ret ⟨by omega, by omega, by omega, hi⟩) (fun h1 => Ok.ite (fun h2 => ?_) (fun h2 => ?_))
  · refine Ok.bind (byte_ok l hl i h hi) fun r hr => Ok.neg (by omega) (Ok.ret ?_)
    obtain ⟨b, i', h'⟩ := r
    obtain ⟨q1, q2, q3⟩ := hr
    dsimp only at *
    rw [Int.tmod_eq_emod_of_nonneg q1]
    exact ⟨Int.emod_nonneg _ (by omega), fun _ => Int.emod_lt_of_pos _ (by omega), by omega, q3⟩
  · refine Ok.bind (byte_ok l hl i h hi) fun r1 h1' => Ok.bind (byte_ok l hl r1.2.1 r1.2.2 h1'.2.2) fun r2 h2' => Ok.bind (byte_ok l hl r2.2.1 r2.2.2 h2'.2.2) fun r3 h3' => Ok.bind (byte_ok l hl r3.2.1 r3.2.2 h3'.2.2) fun r4 h4' => Ok.neg (by omega) (Ok.ret ?_)
    obtain ⟨b1, i1, h1⟩ := r1
    obtain ⟨b2, i2, h2⟩ := r2
    obtain ⟨b3, i3, h3⟩ := r3
    obtain ⟨b4, i4, h4⟩ := r4
    obtain ⟨p1, p2, p3⟩ := h1'
    obtain ⟨q1, q2, q3⟩ := h2'
    obtain ⟨u1, u2, u3⟩ := h3'
    obtain ⟨v1, v2, v3⟩ := h4'
    dsimp only at *
    rw [wrap_of (x := b1 * 16777216) (by omega) (by omega), wrap_of (x := b2 * 65536) (by omega) (by omega), wrap_of (x := b1 * 16777216 + b2 * 65536) (by omega) (by omega), wrap_of (x := b3 * 256) (by omega) (by omega), wrap_of (x := b1 * 16777216 + b2 * 65536 + b3 * 256) (by omega) (by omega), wrap_of (x := b1 * 16777216 + b2 * 65536 + b3 * 256 + b4) (by omega) (by omega), Int.tmod_eq_emod_of_nonneg (by omega)]
    exact ⟨Int.emod_nonneg _ (by omega), fun _ => Int.emod_lt_of_pos _ (by omega), by omega, v3⟩
theorem once_ok (l : List Int) (hl : l.length ≤ maxLen) (i h : Int) (hi : 0 ≤ i) (n : Int) : Ok (fun r : Bool × Int × Int => 0 ≤ r.2.1) (spec_l1Once.f l i h n) := by
  unfold spec_l1Once.f
  exact Ok.bind (below_ok l hl i h hi n) fun r hr => Ok.ret hr.2.2.2
/-! ### what is drawn: int64 fields, few sets (over the ZD seat's texts) -/
theorem i64_wrap (x : Int) : i64 (wrap64 x) := by unfold i64 wrap64; omega
theorem rd_i64 (xs : List Int) (h : ∀ x ∈ xs, i64 x) (i : Int) : i64 (rd xs i) := by
  unfold rd
  rw [List.getD_eq_getElem?_getD]
  cases e : xs[i.toNat]? with
  | none => exact ⟨by simp, by simp⟩
  | some x => exact h x (List.mem_of_getElem? e)
theorem from_i64 (l : List Int) (hl : l.length ≤ maxLen) (i h : Int) (hi : 0 ≤ i) (a b : Int) : Ok (fun r : Int × Int × Int => i64 r.1 ∧ 0 ≤ r.2.1) (spec_l1From.f l i h a b) := by
  unfold spec_l1From.f
  exact Ok.bind (below_ok l hl i h hi _) fun r hr => Ok.ret ⟨i64_wrap _, hr.2.2.2⟩
theorem small_i64 {x n : Int} (h0 : 0 ≤ x) (h1 : x < n) (hn : n ≤ 1000000) : i64 x := ⟨by omega, by omega⟩
theorem drawSet_i64 (l : List Int) (hl : l.length ≤ maxLen) (i h : Int) (hi : 0 ≤ i) (a : Int) : Ok (fun r : Int × Int × Int × Bool × Int × Int × Int => (i64 r.2.1 ∧ i64 r.2.2.1 ∧ i64 r.2.2.2.2.1) ∧ 0 ≤ r.2.2.2.2.2.1) (spec_l2DrawSet.f l i h a) := by
  unfold spec_l2DrawSet.f
  refine Ok.bind (below_ok l hl i h hi 6) fun r1 h1 => Ok.bind (from_i64 l hl _ _ h1.2.2.2 (-50) 50) fun r2 h2 => Ok.bind (once_ok l hl _ _ h2.2 2) fun r3 h3 => Ok.bind (below_ok l hl _ _ h3 6) fun r4 h4 => Ok.bind (once_ok l hl _ _ h4.2.2.2 30) fun r5 h5 => ?_
  have s1 : i64 r1.1 := small_i64 h1.1 (h1.2.1 (by omega)) (by omega)
  have s4 : i64 r4.1 := small_i64 h4.1 (h4.2.1 (by omega)) (by omega)
  refine Ok.ite (fun _ => Ok.bind (below_ok l hl _ _ h5 4) fun r6 h6 => ?_) (fun _ => Ok.ret ⟨⟨s1, h2.1, s4⟩, h5⟩)
  refine Ok.ite (fun _ => ?_) (fun _ => Ok.ite (fun _ => ?_) (fun _ => Ok.ite (fun _ => ?_) (fun _ => Ok.ite (fun _ => ?_) (fun _ => Ok.ret ⟨⟨s1, h2.1, s4⟩, h6.2.2.2⟩))))
  all_goals (try simp only [Option.bind_some])
  · exact Ok.bind (below_ok l hl _ _ h6.2.2.2 4) fun r7 h7 => Ok.pos h7.1 (Ok.pos (by have := h7.2.1 (by decide); simp; omega) (Ok.ret ⟨⟨s1, h2.1, s4⟩, h7.2.2.2⟩))
  · exact Ok.bind (below_ok l hl _ _ h6.2.2.2 2) fun r7 h7 => Ok.pos h7.1 (Ok.pos (by have := h7.2.1 (by decide); simp; omega) (Ok.ret ⟨⟨rd_i64 _ (by simp [i64]) _, h2.1, s4⟩, h7.2.2.2⟩))
  · exact Ok.bind (below_ok l hl _ _ h6.2.2.2 4) fun r7 h7 => Ok.pos h7.1 (Ok.pos (by have := h7.2.1 (by decide); simp; omega) (Ok.ret ⟨⟨s1, rd_i64 _ (by simp [i64]) _, s4⟩, h7.2.2.2⟩))
  · exact Ok.bind (below_ok l hl _ _ h6.2.2.2 3) fun r7 h7 => Ok.pos h7.1 (Ok.pos (by have := h7.2.1 (by decide); simp; omega) (Ok.ret ⟨⟨s1, h2.1, rd_i64 _ (by simp [i64]) _⟩, h7.2.2.2⟩))
def okF (x : S47) : Prop := i64 x.f1 ∧ i64 x.f2 ∧ i64 x.f4
theorem slot_t (a : Int) : Ok (fun _ => True) (spec_l1Slot.f a) :=
  Ok.eq (show spec_l1Slot.f a = some (decide (0 ≤ a ∧ a ≤ 5)) by simp only [spec_l1Slot.f, in_, Option.bind_some]) trivial
theorem okF_snoc {x : List S47} {p : S47} (hx : ∀ y ∈ x, okF y) (hp : okF p) : ∀ y ∈ x ++ [p], okF y := by
  intro y hy
  rcases List.mem_append.1 hy with h | h
  · exact hx y h
  · rw [List.mem_singleton.1 h]; exact hp
theorem drawSets_i64 (l : List Int) (hl : l.length ≤ maxLen) (a : Int) : ∀ d (i : Nat) k (x : List S47) (j h : Int), i + d = 6 → d < k → x.length ≤ i → (∀ y ∈ x, okF y) → 0 ≤ j → Ok (fun r : List S47 × Int × Int => r.1.length ≤ 7 ∧ (∀ y ∈ r.1, okF y) ∧ 0 ≤ r.2.1) (spec_l2DrawSets.l0 k a x (i : Int) l j h) := by
  intro d
  induction d with
  | zero =>
    intro i k x j h hd hk hx hf hj
    obtain ⟨k, rfl⟩ : ∃ q, k = q + 1 := ⟨k - 1, by omega⟩
    simp only [spec_l2DrawSets.l0]
    refine Ok.neg (by omega) (Ok.bind (once_ok l hl j h hj 20) fun r1 h1 => Ok.ite (fun _ => Ok.ite (fun hgt => Ok.pos (by omega) (Ok.pos (by omega) (Ok.ret ⟨?_, ?_, h1⟩))) (fun _ => Ok.ret ⟨?_, hf, h1⟩)) (fun _ => Ok.ret ⟨?_, hf, h1⟩))
    · simp; omega
    · have h0 : 0 < x.length := by omega
      have := hf x[0] (List.getElem_mem h0)
      refine okF_snoc hf ?_
      have e : rd_T47 x 0 = x[0] := rd47_get (i := 0) h0
      rw [e]
      exact this
    · show x.length ≤ 7; omega
    · show x.length ≤ 7; omega
  | succ d ih =>
    intro i k x j h hd hk hx hf hj
    obtain ⟨k, rfl⟩ : ∃ q, k = q + 1 := ⟨k - 1, by omega⟩
    have ew : wrap64 ((i : Int) + 1) = ((i + 1 : Nat) : Int) := by rw [wrap_of (by omega) (by omega)]; omega
    simp only [spec_l2DrawSets.l0, ew]
    refine Ok.pos (by omega) (Ok.bind (once_ok l hl j h hj 3) fun r1 h1 => Ok.ite (fun _ => Ok.bind (drawSet_i64 l hl _ _ h1 a) fun r2 h2 => Ok.bind (slot_t _) fun r3 _ => Ok.ite (fun _ => Ok.pos (by omega) ?_) (fun _ => Ok.pos (by omega) ?_)) (fun _ => ?_))
    · exact ih (i + 1) k _ _ _ (by omega) (by omega) (by simp; omega) (okF_snoc hf ⟨⟨by show _ ≤ (i : Int); omega, by show (i : Int) ≤ _; omega⟩, h2.1.2.1, h2.1.2.2⟩) h2.2
    · exact ih (i + 1) k _ _ _ (by omega) (by omega) (by simp; omega) (okF_snoc hf h2.1) h2.2
    · exact ih (i + 1) k _ _ _ (by omega) (by omega) (by omega) hf h1
def okD (r : Int × Int × Int × List S47 × Int × Int) : Prop := i64 r.1 ∧ i64 r.2.1 ∧ i64 r.2.2.1 ∧ r.2.2.2.1.length ≤ 7 ∧ (∀ y ∈ r.2.2.2.1, okF y) ∧ 0 ≤ r.2.2.2.2.1
theorem draw_j1 (l : List Int) (hl : l.length ≤ maxLen) (j h : Int) (hj : 0 ≤ j) (a b c : Int) (x : List S47) (ha : i64 a) (hb : i64 b) (hc : i64 c) (hx : x.length ≤ 7) (hf : ∀ y ∈ x, okF y) (k : Nat) : Ok okD (spec_l2Draw.j1 (k + 1) l j h a b c x) := by
  simp only [spec_l2Draw.j1]
  refine Ok.bind (once_ok l hl j h hj 14) fun r1 h1 => Ok.ite (fun _ => Ok.bind (below_ok l hl _ _ h1 3) fun r2 h2 => ?_) (fun _ => Ok.ret ⟨ha, hb, hc, hx, hf, h1⟩)
  refine Ok.ite (fun _ => ?_) (fun _ => Ok.ite (fun _ => ?_) (fun _ => Ok.ite (fun _ => ?_) (fun _ => Ok.ret ⟨ha, hb, hc, hx, hf, h2.2.2.2⟩)))
  all_goals (try simp only [Option.bind_some])
  · exact Ok.bind (below_ok l hl _ _ h2.2.2.2 3) fun r7 h7 => Ok.pos h7.1 (Ok.pos (by have := h7.2.1 (by decide); simp; omega) (Ok.ret ⟨rd_i64 _ (by simp [i64]) _, hb, hc, hx, hf, h7.2.2.2⟩))
  · exact Ok.bind (below_ok l hl _ _ h2.2.2.2 4) fun r7 h7 => Ok.pos h7.1 (Ok.pos (by have := h7.2.1 (by decide); simp; omega) (Ok.ret ⟨ha, rd_i64 _ (by simp [i64]) _, hc, hx, hf, h7.2.2.2⟩))
  · exact Ok.bind (below_ok l hl _ _ h2.2.2.2 4) fun r7 h7 => Ok.pos h7.1 (Ok.pos (by have := h7.2.1 (by decide); simp; omega) (Ok.ret ⟨ha, hb, rd_i64 _ (by simp [i64]) _, hx, hf, h7.2.2.2⟩))
theorem draw_j0 (l : List Int) (hl : l.length ≤ maxLen) (j h : Int) (hj : 0 ≤ j) (q : Bool) (a b c : Int) (x : List S47) (ha : i64 a) (hb : i64 b) (hc : i64 c) (hx : x.length ≤ 7) (hf : ∀ y ∈ x, okF y) (k : Nat) : Ok okD (spec_l2Draw.j0 (k + 1 + 1) q l j h a b c x) := by
  simp only [spec_l2Draw.j0]
  refine Ok.ite (fun _ => ?_) (fun _ => draw_j1 l hl j h hj a b c x ha hb hc hx hf k)
  exact draw_j1 l hl j h hj a b c _ ha hb hc (by simp) (by
    intro y hy
    rw [List.mem_singleton.1 hy]
    exact ⟨(by unfold i64; decide : i64 2), (by unfold i64; decide : i64 7), (by unfold i64; decide : i64 1)⟩) k
theorem draw_i64 (l : List Int) (hl : l.length ≤ maxLen) (i h : Int) (hi : 0 ≤ i) (k : Nat) (hk : 10 < k) : Ok okD (spec_l2Draw.f k l i h) := by
  obtain ⟨k, rfl⟩ : ∃ q, k = q + 1 + 1 := ⟨k - 2, by omega⟩
  unfold spec_l2Draw.f
  refine Ok.bind (below_ok l hl i h hi 3) fun r1 h1 => Ok.bind (below_ok l hl _ _ h1.2.2.2 9) fun r2 h2 => Ok.bind (below_ok l hl _ _ h2.2.2.2 3) fun r3 h3 => ?_
  have hs : Ok (fun r : List S47 × Int × Int => r.1.length ≤ 7 ∧ (∀ y ∈ r.1, okF y) ∧ 0 ≤ r.2.1) (spec_l2DrawSets.f (k + 1 + 1) l r3.2.1 r3.2.2 r3.1) := by
    unfold spec_l2DrawSets.f
    exact drawSets_i64 l hl r3.1 6 0 (k + 1 + 1) [] _ _ (by omega) (by omega) (by simp) (by simp) h3.2.2.2
  have s3 : i64 r3.1 := small_i64 h3.1 (h3.2.1 (by omega)) (by omega)
  refine Ok.bind hs fun r4 h4 => Ok.ite (fun _ => Ok.bind (once_ok l hl _ _ h4.2.2 6) fun r5 h5 => ?_) (fun _ => ?_)
  · exact draw_j0 l hl _ _ h5 _ _ _ _ _ (i64_wrap _) (i64_wrap _) s3 h4.1 h4.2.1 k
  · exact draw_j0 l hl _ _ h4.2.2 _ _ _ _ _ (i64_wrap _) (i64_wrap _) s3 h4.1 h4.2.1 k
/-! ### the text that is drawn (over XRe15) -/
theorem strOf_size (xs : List Int) : (strOfNums xs).size = xs.length := by simp [strOfNums, ByteArray.size]
theorem rr_loop (l : List Int) (hl : l.length ≤ maxLen) : ∀ (d : Nat) (k : Nat) (xs : List Int) (n i h : Int), n ≤ (d : Int) → 0 ≤ i → xs.length + d ≤ 20000 → d + 2 < k → Ok (fun r : ByteArray => r.size ≤ 20000) (spec_DrawReadRecord.l0 k l xs n i h) := by
  intro d
  induction d with
  | zero =>
    intro k xs n i h hn hi hx hk
    obtain ⟨k, rfl⟩ : ∃ q, k = q + 1 := ⟨k - 1, by omega⟩
    simp only [spec_DrawReadRecord.l0]
    exact Ok.neg (by omega) (Ok.pos (by omega) (Ok.ret (by rw [strOf_size]; omega)))
  | succ d ih =>
    intro k xs n i h hn hi hx hk
    obtain ⟨k, rfl⟩ : ∃ q, k = q + 1 := ⟨k - 1, by omega⟩
    simp only [spec_DrawReadRecord.l0]
    have e : Ok (fun r : ByteArray => r.size ≤ 20000) (some (strOfNums xs)) := Ok.ret (by rw [strOf_size]; omega)
    refine Ok.ite (fun h0 => Ok.ite (fun h1 => Ok.pos (by omega) (Ok.bind (below_ok l hl i h hi _) fun b1 g1 => Ok.bind (below_ok l hl _ _ g1.2.2.2 4) fun b2 g2 => Ok.pos g1.1 (Ok.pos (g1.2.1 (by omega)) ?_))) (fun _ => Ok.pos (by omega) e)) (fun _ => Ok.pos (by omega) e)
    have ew : wrap64 (n - 1) = n - 1 := wrap_of (by omega) (by omega)
    have q1 := g1.2.1 (by omega)
    have q2 := g2.2.1 (by omega)
    have q0 := g1.1
    have ec : wrap64 (b1.1 + 1) = b1.1 + 1 := wrap_of (by omega) (by omega)
    rw [ew, ec]
    refine Ok.ite (fun _ => Ok.bind (below_ok l hl _ _ g2.2.2.2 7) fun b3 g3 => Ok.pos g3.1 (Ok.pos (g3.2.1 (by omega)) ?_)) (fun n0 => Ok.ite (fun _ => ?_) (fun n1 => Ok.ite (fun _ => ?_) (fun n2 => Ok.pos (by have := g2.1; omega) ?_)))
    · exact ih k _ _ _ _ (by omega) g3.2.2.2 (by rw [List.length_set]; omega) (by omega)
    · exact ih k _ _ _ _ (by omega) g2.2.2.2 (by rw [List.length_take]; omega) (by omega)
    · exact ih k _ _ _ _ (by omega) g2.2.2.2 (by rw [List.length_append, List.length_take, List.length_drop]; omega) (by omega)
    · exact ih k _ _ _ _ (by omega) g2.2.2.2 (by rw [List.length_append, List.length_append, List.length_take, List.length_drop, List.length_singleton]; omega) (by omega)
/-! ### the glue -/
theorem res_acc (t : List UInt8) (ht : t.length ≤ 1048576) : RES t = bad ∨ ∃ a b c l, RES t = (a, b, c, l, true) ∧ l.length ≤ 1048576 ∧ spec_RecordOk.f 5000000 a b c l = some true ∧ TXT a b c l = t := by
  obtain ⟨w1, w2⟩ := wsplit_len t []
  unfold RES
  cases hn : nums (wsplit [] t) with
  | none => exact Or.inl rfl
  | some ns =>
    have hl := nums_len _ _ hn
    simp only
    split
    · rename_i h4
      have hs : (sets (rd ns 2) (ns.drop 4)).length ≤ 1048576 := by rw [sets_len _ (ns.length / 4 - 1) _ (by rw [List.length_drop]; omega)]; omega
      unfold fin_
      split
      · rename_i h
        exact Or.inr ⟨_, _, _, _, rfl, hs, h.1, h.2⟩
      · exact Or.inl rfl
    · exact Or.inl rfl
theorem shows (a b c : Int) (l : List S47) (hl : l.length ≤ 1048576) (k : Nat) (hk : 4000000000 < k) : ∃ q, spec_RecordOk.f k a b c l = some q ∧ impl_RecordOk.f k a b c l = some q ∧ spec_ShowRecord.f k a b c l = some (if q = true then mkb (TXT a b c l) else (⟨#[]⟩ : ByteArray)) ∧ impl_ShowRecord.f k a b c l = some (if q = true then mkb (TXT a b c l) else (⟨#[]⟩ : ByteArray)) := by
  obtain ⟨q, e1, e2⟩ := record_ok a b c l hl k (by omega)
  refine ⟨q, e1, by simp [impl_RecordOk.f, e2], ?_⟩
  cases q with
  | false => exact ⟨by simp [spec_ShowRecord.f, e1], by simp [impl_ShowRecord.f, e2]⟩
  | true =>
    obtain ⟨f1, f2, f3, f4, f5⟩ := record_facts a b c l hl k (by omega) e1
    obtain ⟨g1, g2⟩ := shown_both a b c l f1 f2 f3 f4 f5 k (by omega)
    exact ⟨by simp [spec_ShowRecord.f, e1, g1], by simp [impl_ShowRecord.f, e2, g2]⟩
theorem like_self (a b c : Int) (l : List S47) (hl : l.length ≤ 1048576) (k : Nat) (hk : 4000000000 < k) : laws_likeRecord.f k a b c l a b c l = some true := by
  unfold laws_likeRecord.f
  rw [if_pos rfl, if_pos rfl, if_pos rfl, likeSets_ok l (by omega) k (by omega)]
  rfl
theorem drawn_text (l : List Int) (hl : l.length ≤ maxLen) (k : Nat) (hk : 20000000000000000300 < k) : Ok (fun t : ByteArray => t.size ≤ 20000) (spec_DrawReadRecord.f k l) := by
  have hm := hl
  unfold maxLen at hm
  obtain ⟨h0, e0⟩ := new_ok l hl k (by omega)
  obtain ⟨⟨a, b, c, s, i, h⟩, ed, d1, d2, d3, d4, d5, d6⟩ := draw_i64 l hl 0 h0 (by omega) k (by omega)
  simp only at d1 d2 d3 d4 d5 d6
  obtain ⟨x, ex, hx⟩ := show_any a b c s d1 d2 d3 (by omega) d5 k (by omega)
  unfold spec_DrawReadRecord.f
  rw [e0, Option.bind_some]
  show Ok _ ((spec_l2Draw.f k l 0 h0).bind _)
  rw [ed, Option.bind_some]
  show Ok _ ((spec_l2Show.f k a b c s).bind _)
  rw [ex, Option.bind_some, if_pos (by omega)]
  refine Ok.bind (below_ok l hl i h d6 3) fun b1 g1 => ?_
  have q1 := g1.2.1 (by omega)
  have hb : (bytesN x).length = x.size := by rw [bytesN, List.length_map, Array.length_toList]; rfl
  exact rr_loop l hl 3 k (bytesN x) _ _ _ (by omega) g1.2.2.2 (by omega) (by omega)
theorem j1_ok (l : List Int) (hl : l.length ≤ maxLen) (k : Nat) (hk : 20000000000000000400 < k) : laws_FnRecords.j1 (k + 1 + 1) l = some true := by
  rw [laws_FnRecords.j1]
  obtain ⟨t, et, ht⟩ := drawn_text l hl (k + 1) (by omega)
  have hz : t.size = t.data.toList.length := Go.Lib.size_eq t
  rw [et, Option.bind_some, impl_read t (by omega) (k + 1) (by omega), Option.bind_some, spec_read t (by omega) (k + 1) (by omega), Option.bind_some]
  rw [if_neg (by simp)]
  have hs := res_small t.data.toList (by omega)
  rw [like_self _ _ _ _ (by omega) (k + 1) (by omega), Option.bind_some]
  rw [laws_FnRecords.j2, if_neg (by simp)]
  rcases res_acc t.data.toList (by omega) with e | ⟨a, b, c, s, e, h1, h2, h3⟩
  · rw [e]
    show (if false = true then _ else ((laws_likeRecord.f k 0 0 0 [] 0 0 0 []).bind _)) = _
    rw [if_neg (by simp), like_self 0 0 0 [] (by simp) k (by omega), Option.bind_some, if_pos rfl]
  · rw [e]
    show (if true = true then ((impl_ShowRecord.f k a b c s).bind _) else _) = _
    obtain ⟨q, p1, p2, p3, p4⟩ := shows a b c s h1 k (by omega)
    have hs' : s.length ≤ 12 := by rw [e] at hs; exact hs
    rw [rec_same a b c s h1 5000000 k (by omega) (by omega)] at h2
    have hq : q = true := Option.some.inj (p1.symm.trans h2)
    rw [if_pos rfl, p4, hq, if_pos rfl, Option.bind_some, bt_toList, h3, Go.Lib.toList_data]
    simp
theorem FnRecords : SFnRecords.Pure := by
  intro l hl _
  obtain ⟨K, hK⟩ : ∃ K, 30000000000000000000 < K := ⟨_, Nat.lt_succ_self _⟩
  refine ⟨K + 1 + 1 + 1, ?_⟩
  have hm := hl
  unfold maxLen at hm
  unfold laws_FnRecords.f
  rw [show laws_big.f l = some (decide ((l.length : Int) > 4096)) from rfl, Option.bind_some]
  by_cases h : (l.length : Int) > 4096
  · rw [if_pos (decide_eq_true h)]
  rw [if_neg (by simpa using h)]
  obtain ⟨h0, e0⟩ := new_ok l hl (K + 1 + 1 + 1) (by omega)
  obtain ⟨⟨a, b, c, s, i, h⟩, ed, d1, d2, d3, d4, d5, d6⟩ := draw_i64 l hl 0 h0 (by omega) (K + 1 + 1 + 1) (by omega)
  simp only at d1 d2 d3 d4 d5 d6
  have e1 : spec_DrawShowRecord.f (K + 1 + 1 + 1) l = some (a, b, c, s) := by simp [spec_DrawShowRecord.f, spec_DrawRecordOk.f, e0, ed]
  rw [e1, Option.bind_some]
  show ((impl_ShowRecord.f (K + 1 + 1 + 1) a b c s).bind fun t456 => ((spec_ShowRecord.f (K + 1 + 1 + 1) a b c s).bind fun t457 => (if t456.toList = t457.toList then ((impl_RecordOk.f (K + 1 + 1 + 1) a b c s).bind fun t458 => (laws_FnRecords.j0 (K + 1 + 1 + 1) l t456 ((t456.toList != ([] : List UInt8)) != t458) a b c s)) else (laws_FnRecords.j0 (K + 1 + 1 + 1) l t456 true a b c s)))) = _
  obtain ⟨q, p1, p2, p3, p4⟩ := shows a b c s (by omega) (K + 1 + 1 + 1) (by omega)
  rw [p4, Option.bind_some, p3, Option.bind_some, if_pos rfl, p2, Option.bind_some]
  rw [laws_FnRecords.j0]
  cases q with
  | false =>
    rw [if_neg (show ¬ (false = true) by simp)]
    have e : (⟨#[]⟩ : ByteArray).toList = [] := by rw [Go.Lib.toList_data]
    rw [e, if_neg (by simp), if_pos rfl]
    exact j1_ok l hl K (by omega)
  | true =>
    rw [if_pos rfl, bt_toList]
    have hn := txt_ne a b c s
    obtain ⟨x, ex, hx⟩ := show_any a b c s d1 d2 d3 (by omega) d5 (K + 1 + 1) (by omega)
    obtain ⟨f1, f2, f3, f4, f5⟩ := record_facts a b c s (by omega) _ (by omega) p1
    obtain ⟨g1, g2⟩ := shown_both a b c s f1 f2 f3 f4 f5 (K + 1 + 1) (by omega)
    have hsz : (mkb (TXT a b c s)).size ≤ 10000 := by
      rw [Option.some.inj (g1.symm.trans ex)]
      exact hx
    rw [if_neg (by simp [hn]), if_neg hn, impl_read _ (by omega) (K + 1 + 1) (by omega), Option.bind_some, bt_data, round_trip' a b c s (by omega) _ (by omega) p1]
    show (if true = true then ((laws_likeRecord.f (K + 1 + 1) a b c s a b c s).bind _) else _) = _
    rw [if_pos rfl, like_self a b c s (by omega) (K + 1 + 1) (by omega), Option.bind_some, if_pos rfl]
    exact j1_ok l hl K (by omega)
end Go.Proofs.YtnilfnkdgdfnnaaGreatDoor.Pure
