/- Proved: the law FnExactTxOk answers true at every argument: the program answers as the reference, wherever the law's own guards let the argument in. Conditions: none beyond the given row's. -/
import Derived.Test.YtodgacnioeoogaaSFnExactTxOk
import Derived.Test.YtodgacnioeoogaaGen
namespace Go.Proofs.Ytodgacnioeoogaa.Pure
open Go.RowKit Go.Proofs.Ytodgacnioeoogaa.XTx Go.Proofs.Ytodgacnioeoogaa.Opened Go.Proofs.YtodgacnioeoogaaW.PrintWords Go.Proofs.YtodgacnioeoogaaW.PrintLast Go.Proofs.Ytodgacnioeoogaa.SFnExactTxOk Go.Proofs.Ytodgacnioeoogaa.Gen
set_option linter.unusedSimpArgs false
set_option linter.unusedVariables false
theorem in_ (a b c : Int) : spec_l1In.f a b c = some (decide (b ≤ a ∧ a ≤ c)) := by
  unfold spec_l1In.f
  by_cases h : a ≥ b <;> simp [h]
theorem within_ (a b c : Int) : impl_within.f a b c = some (decide (b ≤ a ∧ a ≤ c)) := by
  unfold impl_within.f
  by_cases h : a ≥ b <;> simp [h]
theorem rd139_get {l : List S139} {i : Nat} (h : i < l.length) : rd_T139 l (i : Int) = l[i] := by
  unfold rd_T139
  rw [Int.toNat_natCast, List.getD_eq_getElem?_getD, List.getElem?_eq_getElem h]
  rfl
theorem rd139_set {l : List S139} {i : Nat} (h : i < l.length) (v : S139) : rd_T139 (l.set i v) (i : Int) = v := by
  rw [rd139_get (by rw [List.length_set]; exact h)]
  simp
theorem rd123_get {l : List S123} {i : Nat} (h : i < l.length) : rd_T123 l (i : Int) = l[i] := by
  unfold rd_T123
  rw [Int.toNat_natCast, List.getD_eq_getElem?_getD, List.getElem?_eq_getElem h]
  rfl
theorem rd123_set {l : List S123} {i : Nat} (h : i < l.length) (v : S123) : rd_T123 (l.set i v) (i : Int) = v := by
  rw [rd123_get (by rw [List.length_set]; exact h)]
  simp
theorem rd141_get {l : List S141} {i : Nat} (h : i < l.length) : rd_T141 l (i : Int) = l[i] := by
  unfold rd_T141
  rw [Int.toNat_natCast, List.getD_eq_getElem?_getD, List.getElem?_eq_getElem h]
  rfl
theorem rd141_set {l : List S141} {i : Nat} (h : i < l.length) (v : S141) : rd_T141 (l.set i v) (i : Int) = v := by
  rw [rd141_get (by rw [List.length_set]; exact h)]
  simp
theorem rd127_get {l : List S127} {i : Nat} (h : i < l.length) : rd_T127 l (i : Int) = l[i] := by
  unfold rd_T127
  rw [Int.toNat_natCast, List.getD_eq_getElem?_getD, List.getElem?_eq_getElem h]
  rfl
theorem rd127_set {l : List S127} {i : Nat} (h : i < l.length) (v : S127) : rd_T127 (l.set i v) (i : Int) = v := by
  rw [rd127_get (by rw [List.length_set]; exact h)]
  simp
def convN (p : S139) : S123 := ⟨p.f0, p.f1, p.f2, p.f3, p.f4⟩
theorem toNoteS_ok (l : List S139) (hl : l.length ≤ 1048576) (k : Nat) (hk : l.length < k) : laws_toNoteS.f k l = some (l.map convN) := by
  unfold laws_toNoteS.f
  rw [if_pos (by omega), if_pos (by omega)]
  exact loop_to (fun k (s : List S123 × Int) => laws_toNoteS.l0 k l s.1 s.2) (fun i s => s.2 = (i : Int) ∧ s.1.length = (l.map convN).length ∧ s.1.take i = (l.map convN).take i) l.length 0 (l.map convN)
    (fun k i s hk hi hP => ⟨(s.1.set s.2.toNat (convN l[i]), wrap64 (s.2 + 1)), by
      obtain ⟨h1, h2, h3⟩ := hP
      refine ⟨by show wrap64 (s.2 + 1) = _; rw [h1, wrap_of (by omega) (by omega)]; omega, by show (s.1.set _ _).length = _; rw [List.length_set, h2], ?_⟩
      show (s.1.set s.2.toNat (convN l[i])).take (i + 1) = _
      rw [h1, Int.toNat_natCast]
      exact take_next h2 (by simpa using hi) h3 (by simp), by
      obtain ⟨h1, h2, h3⟩ := hP
      rw [List.length_map] at h2
      show laws_toNoteS.l0 (k + 1) l s.1 s.2 = _
      simp only [laws_toNoteS.l0, laws_toNote.f]
      rw [if_pos (by omega), if_pos (by omega), h1, rd139_get hi]
      simp only [Option.bind_some]
      rw [if_pos (by omega)]
      rfl⟩)
    (fun k s hk hP => by
      obtain ⟨h1, h2, h3⟩ := hP
      show laws_toNoteS.l0 (k + 1) l s.1 s.2 = _
      simp only [laws_toNoteS.l0]
      rw [if_neg (by omega)]
      rw [List.take_of_length_le (by rw [h2, List.length_map]; omega), List.take_of_length_le (by simp)] at h3
      rw [h3]) 0 k (List.replicate ((l.length : Int)).toNat z123, 0) (by omega) (by omega) ⟨rfl, by simp, by simp⟩
def convS (p : S141) : S127 := ⟨p.f0, p.f1, p.f2, p.f3, p.f4⟩
theorem toSetS_ok (l : List S141) (hl : l.length ≤ 1048576) (k : Nat) (hk : l.length < k) : laws_toSetS.f k l = some (l.map convS) := by
  unfold laws_toSetS.f
  rw [if_pos (by omega), if_pos (by omega)]
  exact loop_to (fun k (s : List S127 × Int) => laws_toSetS.l0 k l s.1 s.2) (fun i s => s.2 = (i : Int) ∧ s.1.length = (l.map convS).length ∧ s.1.take i = (l.map convS).take i) l.length 0 (l.map convS)
    (fun k i s hk hi hP => ⟨(s.1.set s.2.toNat (convS l[i]), wrap64 (s.2 + 1)), by
      obtain ⟨h1, h2, h3⟩ := hP
      refine ⟨by show wrap64 (s.2 + 1) = _; rw [h1, wrap_of (by omega) (by omega)]; omega, by show (s.1.set _ _).length = _; rw [List.length_set, h2], ?_⟩
      show (s.1.set s.2.toNat (convS l[i])).take (i + 1) = _
      rw [h1, Int.toNat_natCast]
      exact take_next h2 (by simpa using hi) h3 (by simp), by
      obtain ⟨h1, h2, h3⟩ := hP
      rw [List.length_map] at h2
      show laws_toSetS.l0 (k + 1) l s.1 s.2 = _
      simp only [laws_toSetS.l0, laws_toSet.f]
      rw [if_pos (by omega), if_pos (by omega), h1, rd141_get hi]
      simp only [Option.bind_some]
      rw [if_pos (by omega)]
      rfl⟩)
    (fun k s hk hP => by
      obtain ⟨h1, h2, h3⟩ := hP
      show laws_toSetS.l0 (k + 1) l s.1 s.2 = _
      simp only [laws_toSetS.l0]
      rw [if_neg (by omega)]
      rw [List.take_of_length_le (by rw [h2, List.length_map]; omega), List.take_of_length_le (by simp)] at h3
      rw [h3]) 0 k (List.replicate ((l.length : Int)).toNat z127, 0) (by omega) (by omega) ⟨rfl, by simp, by simp⟩
theorem eqNoteS_ok (l : List S123) (hl : l.length ≤ 9000000000000) (k : Nat) (hk : l.length < k) : laws_eqNoteS.f k l l = some true := by
  unfold laws_eqNoteS.f
  rw [if_pos rfl]
  exact loop_to (fun k (s : Int) => laws_eqNoteS.l0 k l l s) (fun i s => s = (i : Int)) l.length 0 true
    (fun k i s hk hi hP => ⟨wrap64 (s + 1), by rw [hP, wrap_of (by omega) (by omega)]; omega, by
      show laws_eqNoteS.l0 (k + 1) l l s = _
      simp only [laws_eqNoteS.l0]
      rw [if_pos (by omega), if_pos (by omega), if_pos (by omega)]
      simp [laws_eqNote.f]⟩)
    (fun k s _ hP => by
      show laws_eqNoteS.l0 (k + 1) l l s = _
      simp only [laws_eqNoteS.l0]
      rw [if_neg (by omega)]) 0 k 0 (by omega) (by omega) rfl
theorem eqSetS_ok (l : List S127) (hl : l.length ≤ 9000000000000) (k : Nat) (hk : l.length < k) : laws_eqSetS.f k l l = some true := by
  unfold laws_eqSetS.f
  rw [if_pos rfl]
  exact loop_to (fun k (s : Int) => laws_eqSetS.l0 k l l s) (fun i s => s = (i : Int)) l.length 0 true
    (fun k i s hk hi hP => ⟨wrap64 (s + 1), by rw [hP, wrap_of (by omega) (by omega)]; omega, by
      show laws_eqSetS.l0 (k + 1) l l s = _
      simp only [laws_eqSetS.l0]
      rw [if_pos (by omega), if_pos (by omega), if_pos (by omega)]
      simp [laws_eqSet.f]⟩)
    (fun k s _ hP => by
      show laws_eqSetS.l0 (k + 1) l l s = _
      simp only [laws_eqSetS.l0]
      rw [if_neg (by omega)]) 0 k 0 (by omega) (by omega) rfl
theorem szNoteS_ok (l : List S139) (a : Int) (ha : 0 ≤ a) (ha' : a ≤ 1048576) (hl : l.length ≤ maxLen) : laws_szNoteS.f l a = some (if a < (l.length : Int) then -1 else a - (l.length : Int)) := by
  unfold maxLen at hl
  unfold laws_szNoteS.f
  rw [wrap_of (by omega) (by omega)]
  by_cases h : a < (l.length : Int)
  · rw [if_pos (by omega), if_pos h]
  · rw [if_neg (by omega), if_neg h]
theorem szSetS_ok (l : List S141) (a : Int) (ha : 0 ≤ a) (ha' : a ≤ 1048576) (hl : l.length ≤ maxLen) : laws_szSetS.f l a = some (if a < (l.length : Int) then -1 else a - (l.length : Int)) := by
  unfold maxLen at hl
  unfold laws_szSetS.f
  rw [wrap_of (by omega) (by omega)]
  by_cases h : a < (l.length : Int)
  · rw [if_pos (by omega), if_pos h]
  · rw [if_neg (by omega), if_neg h]
def okN (n : S123) : Bool := decide (((0 ≤ n.f0 ∧ n.f0 ≤ 5) ∧ (0 ≤ n.f1 ∧ n.f1 ≤ 5)) ∧ (0 ≤ n.f2 ∧ n.f2 ≤ 1000000) ∧ (-1000000000 ≤ n.f3 ∧ n.f3 ≤ 1000000000))
def okS (n : S127) : Bool := decide (((0 ≤ n.f0 ∧ n.f0 ≤ 5) ∧ (0 ≤ n.f1 ∧ n.f1 ≤ 5)) ∧ (-1000000000 ≤ n.f2 ∧ n.f2 ≤ 1000000000) ∧ (0 ≤ n.f4 ∧ n.f4 ≤ 999999))
theorem spec_note (n : S123) : spec_l7Note.f n.f0 n.f1 n.f2 n.f3 n.f4 = some (okN n) := by
  simp only [spec_l7Note.f, spec_l1Region.f, spec_l1Slot.f, spec_l1Version.f, spec_l1Value.f, in_, Option.bind_some, okN]
  by_cases h1 : (0 ≤ n.f0 ∧ n.f0 ≤ 5) <;> by_cases h2 : (0 ≤ n.f1 ∧ n.f1 ≤ 5) <;> by_cases h3 : (0 ≤ n.f2 ∧ n.f2 ≤ 1000000) <;> simp [h1, h2, h3]
theorem impl_note (n : S123) : impl_isNote.f n.f0 n.f1 n.f2 n.f3 n.f4 = some (okN n) := by
  simp only [impl_isNote.f, impl_isRegion.f, impl_isSlot.f, impl_isValue.f, within_, Option.bind_some, okN]
  by_cases h1 : (0 ≤ n.f0 ∧ n.f0 ≤ 5) <;> by_cases h2 : (0 ≤ n.f1 ∧ n.f1 ≤ 5) <;> by_cases h3 : (0 ≤ n.f2 ∧ n.f2 ≤ 1000000) <;> simp [h1, h2, h3]
theorem spec_set (n : S127) : spec_SetOk.f n.f0 n.f1 n.f2 n.f3 n.f4 = some (okS n) := by
  simp only [spec_SetOk.f, spec_l1Region.f, spec_l1Slot.f, spec_l1Value.f, in_, Option.bind_some, okS]
  by_cases h1 : (0 ≤ n.f0 ∧ n.f0 ≤ 5) <;> by_cases h2 : (0 ≤ n.f1 ∧ n.f1 ≤ 5) <;> by_cases h3 : (-1000000000 ≤ n.f2 ∧ n.f2 ≤ 1000000000) <;> simp [h1, h2, h3]
theorem impl_set (n : S127) : impl_isSet.f n.f0 n.f1 n.f2 n.f3 n.f4 = some (okS n) := by
  simp only [impl_isSet.f, impl_isRegion.f, impl_isSlot.f, impl_isValue.f, within_, Option.bind_some, okS]
  by_cases h1 : (0 ≤ n.f0 ∧ n.f0 ≤ 5) <;> by_cases h2 : (0 ≤ n.f1 ∧ n.f1 ≤ 5) <;> by_cases h3 : (-1000000000 ≤ n.f2 ∧ n.f2 ≤ 1000000000) <;> simp [h1, h2, h3]
def less (a b c d : Int) : Bool := decide (a < c ∨ a = c ∧ b < d)
theorem spec_less (a b c d : Int) : spec_l7Less.f a b c d = some (less a b c d) := by
  unfold spec_l7Less.f less
  by_cases h1 : a < c
  · simp [h1]
  · by_cases h2 : a = c
    · simp [h2]
    · simp [h1, h2]
theorem compare_ok (a b : Int) : cmp_Compare_int64.f a b = some (if a < b then -1 else if a > b then 1 else 0) := by
  simp only [cmp_Compare_int64.f, cmp_isNaN_int64.f, Option.bind_some]
  rw [if_neg (by simp), if_neg (by simp)]
  by_cases h1 : a < b
  · rw [if_pos h1, if_pos h1]
  · rw [if_neg h1, if_neg h1]
    by_cases h2 : a > b
    · rw [if_pos h2, if_pos h2]
    · rw [if_neg h2, if_neg h2]
theorem or_ok (x y : Int) (k : Nat) : cmp_Or_int.f (k + 1 + 1 + 1) [x, y] = some (if x = 0 then y else x) := by
  have w1 : wrap64 (0 + 1) = 1 := wrap_of (by omega) (by omega)
  have w2 : wrap64 (1 + 1) = 2 := wrap_of (by omega) (by omega)
  have r0 : ∀ x y : Int, rd [x, y] 0 = x := fun _ _ => rfl
  have r1 : ∀ x y : Int, rd [x, y] 1 = y := fun _ _ => rfl
  have w3 : wrap64 1 = 1 := wrap_of (by omega) (by omega)
  have w4 : wrap64 2 = 2 := wrap_of (by omega) (by omega)
  by_cases h1 : x = 0 <;> by_cases h2 : y = 0 <;> simp [cmp_Or_int.f, cmp_Or_int.l0, w1, w2, w3, w4, r0, r1, h1, h2]
theorem cells_ok (a b c d : Int) (k : Nat) : ∃ v, impl_compareCells.f (k + 1 + 1 + 1) a b c d = some v ∧ decide (v ≥ 0) = !less a b c d := by
  simp only [impl_compareCells.f, compare_ok, Option.bind_some, or_ok]
  refine ⟨_, rfl, ?_⟩
  unfold less
  by_cases h1 : a < c
  · simp [h1]
  · by_cases h2 : a > c
    · have h3 : ¬ (a = c) := by omega
      simp [h1, h2, h3]
    · have h3 : a = c := by omega
      by_cases h4 : b < d
      · simp [h3, h4]
      · by_cases h5 : b > d
        · simp [h3, h4, h5]
        · simp [h3, h4, h5]
def stepN (l : List S123) (i : Nat) : Bool := okN (rd_T123 l i) && (decide (i = 0) || less (rd_T123 l ((i - 1 : Nat) : Int)).f0 (rd_T123 l ((i - 1 : Nat) : Int)).f1 (rd_T123 l i).f0 (rd_T123 l i).f1)
def stepS (l : List S127) (i : Nat) : Bool := okS (rd_T127 l i) && (decide (i = 0) || less (rd_T127 l ((i - 1 : Nat) : Int)).f0 (rd_T127 l ((i - 1 : Nat) : Int)).f1 (rd_T127 l i).f0 (rd_T127 l i).f1)
def allN (l : List S123) : Nat → Nat → Bool
  | _, 0 => true
  | i, d + 1 => stepN l i && allN l (i + 1) d
def allS (l : List S127) : Nat → Nat → Bool
  | _, 0 => true
  | i, d + 1 => stepS l i && allS l (i + 1) d
section
variable (a b c e g : Int) (n : List S123) (s : List S127)
theorem spec_sets (hs : s.length ≤ 12) : ∀ d i k, i + d = s.length → 2 * d + 2 < k → spec_TxOk.l1 k (i : Int) a b c e n s g = some (allS s i d) := by
  intro d
  induction d with
  | zero =>
    intro i k hd hk
    obtain ⟨k, rfl⟩ : ∃ q, k = q + 1 := ⟨k - 1, by omega⟩
    simp only [spec_TxOk.l1]
    rw [if_neg (by omega)]
    simp [allS]
  | succ d ih =>
    intro i k hd hk
    obtain ⟨k, rfl⟩ : ∃ q, k = q + 1 + 1 := ⟨k - 2, by omega⟩
    have e1 := ih (i + 1) k (by omega) (by omega)
    rw [show ((i + 1 : Nat) : Int) = (i : Int) + 1 from by omega] at e1
    simp only [spec_TxOk.l1, spec_set, Option.bind_some]
    rw [if_pos (by omega), if_pos (by omega)]
    simp only [allS, stepS]
    by_cases h1 : okS (rd_T127 s i) = true
    · rw [if_pos h1]
      by_cases h2 : i = 0
      · subst h2
        rw [if_neg (by omega)]
        simp only [spec_TxOk.j4]
        rw [if_neg (by simp), wrap_of (by omega) (by omega), e1]
        have h1' : okS (rd_T127 s 0) = true := h1
        simp [h1']
      · rw [if_pos (by omega), wrap_of (by omega) (by omega), if_pos (by omega), if_pos (by omega), show (i : Int) - 1 = ((i - 1 : Nat) : Int) by omega, spec_less]
        simp only [Option.bind_some, spec_TxOk.j4]
        rw [wrap_of (by omega) (by omega), e1]
        by_cases h3 : less (rd_T127 s ((i - 1 : Nat) : Int)).f0 (rd_T127 s ((i - 1 : Nat) : Int)).f1 (rd_T127 s i).f0 (rd_T127 s i).f1 = true <;> simp [h1, h2, h3]
    · rw [if_neg h1]
      simp [spec_TxOk.j4, h1]
theorem spec_notes (hn : n.length ≤ 12) : ∀ d i k, i + d = n.length → 2 * d + 2 < k → spec_TxOk.l0 k (i : Int) a b c e n s g = if allN n i d = true then spec_TxOk.l1 (k - 2 * d - 1) 0 a b c e n s g else some false := by
  intro d
  induction d with
  | zero =>
    intro i k hd hk
    obtain ⟨k, rfl⟩ : ∃ q, k = q + 1 := ⟨k - 1, by omega⟩
    simp only [spec_TxOk.l0]
    rw [if_neg (by omega)]
    simp [allN]
  | succ d ih =>
    intro i k hd hk
    obtain ⟨k, rfl⟩ : ∃ q, k = q + 1 + 1 := ⟨k - 2, by omega⟩
    have e1 := ih (i + 1) k (by omega) (by omega)
    rw [show ((i + 1 : Nat) : Int) = (i : Int) + 1 from by omega] at e1
    have e2 : k + 1 + 1 - 2 * (d + 1) - 1 = k - 2 * d - 1 := by omega
    simp only [spec_TxOk.l0, spec_note, Option.bind_some]
    rw [if_pos (by omega), if_pos (by omega), e2]
    simp only [allN, stepN]
    by_cases h1 : okN (rd_T123 n i) = true
    · rw [if_pos h1]
      by_cases h2 : i = 0
      · subst h2
        rw [if_neg (by omega)]
        simp only [spec_TxOk.j2]
        rw [if_neg (by simp), wrap_of (by omega) (by omega), e1]
        have h1' : okN (rd_T123 n 0) = true := h1
        simp [h1']
      · rw [if_pos (by omega), wrap_of (by omega) (by omega), if_pos (by omega), if_pos (by omega), show (i : Int) - 1 = ((i - 1 : Nat) : Int) by omega, spec_less]
        simp only [Option.bind_some, spec_TxOk.j2]
        rw [wrap_of (by omega) (by omega), e1]
        by_cases h3 : less (rd_T123 n ((i - 1 : Nat) : Int)).f0 (rd_T123 n ((i - 1 : Nat) : Int)).f1 (rd_T123 n i).f0 (rd_T123 n i).f1 = true <;> simp [h1, h2, h3]
    · rw [if_neg h1]
      simp [spec_TxOk.j2, h1]
theorem impl_sets (hs : s.length ≤ 12) : ∀ d i k, i + d = s.length → 2 * d + 6 < k → impl_isTx.l1 k s (s.length : Int) (i : Int) a b c e n s g = some (allS s i d) := by
  intro d
  induction d with
  | zero =>
    intro i k hd hk
    obtain ⟨k, rfl⟩ : ∃ q, k = q + 1 := ⟨k - 1, by omega⟩
    simp only [impl_isTx.l1]
    rw [if_neg (by omega)]
    simp [allS]
  | succ d ih =>
    intro i k hd hk
    obtain ⟨k, rfl⟩ : ∃ q, k = q + 1 + 1 + 1 + 1 := ⟨k - 4, by omega⟩
    have e1 := ih (i + 1) (k + 1 + 1) (by omega) (by omega)
    rw [show ((i + 1 : Nat) : Int) = (i : Int) + 1 from by omega] at e1
    simp only [impl_isTx.l1, impl_set, Option.bind_some]
    rw [if_pos (by omega), if_pos (by omega), if_pos (by omega)]
    simp only [allS, stepS]
    by_cases h1 : okS (rd_T127 s i) = true
    · rw [if_pos h1]
      by_cases h2 : i = 0
      · subst h2
        rw [if_neg (by omega)]
        simp only [impl_isTx.j4]
        rw [if_neg (by simp), wrap_of (by omega) (by omega), e1]
        have h1' : okS (rd_T127 s 0) = true := h1
        simp [h1']
      · rw [if_pos (by omega), wrap_of (x := (i : Int) - 1) (by omega) (by omega), if_pos (by omega), if_pos (by omega), show (i : Int) - 1 = ((i - 1 : Nat) : Int) by omega]
        obtain ⟨v, ev, hv⟩ := cells_ok (rd_T127 s ((i - 1 : Nat) : Int)).f0 (rd_T127 s ((i - 1 : Nat) : Int)).f1 (rd_T127 s i).f0 (rd_T127 s i).f1 k
        rw [ev]
        simp only [Option.bind_some, impl_isTx.j4, hv]
        rw [wrap_of (by omega) (by omega), e1]
        by_cases h3 : less (rd_T127 s ((i - 1 : Nat) : Int)).f0 (rd_T127 s ((i - 1 : Nat) : Int)).f1 (rd_T127 s i).f0 (rd_T127 s i).f1 = true <;> simp [h1, h2, h3]
    · rw [if_neg h1]
      simp [impl_isTx.j4, h1]
theorem impl_notes (hn : n.length ≤ 12) : ∀ d i k, i + d = n.length → 2 * d + 6 < k → impl_isTx.l0 k n (n.length : Int) (i : Int) a b c e n s g = if allN n i d = true then impl_isTx.l1 (k - 2 * d - 1) s (s.length : Int) 0 a b c e n s g else some false := by
  intro d
  induction d with
  | zero =>
    intro i k hd hk
    obtain ⟨k, rfl⟩ : ∃ q, k = q + 1 := ⟨k - 1, by omega⟩
    simp only [impl_isTx.l0]
    rw [if_neg (by omega)]
    simp [allN]
  | succ d ih =>
    intro i k hd hk
    obtain ⟨k, rfl⟩ : ∃ q, k = q + 1 + 1 + 1 + 1 := ⟨k - 4, by omega⟩
    have e1 := ih (i + 1) (k + 1 + 1) (by omega) (by omega)
    rw [show ((i + 1 : Nat) : Int) = (i : Int) + 1 from by omega] at e1
    have e2 : k + 1 + 1 + 1 + 1 - 2 * (d + 1) - 1 = k + 1 + 1 - 2 * d - 1 := by omega
    simp only [impl_isTx.l0, impl_note, Option.bind_some]
    rw [if_pos (by omega), if_pos (by omega), if_pos (by omega), e2]
    simp only [allN, stepN]
    by_cases h1 : okN (rd_T123 n i) = true
    · rw [if_pos h1]
      by_cases h2 : i = 0
      · subst h2
        rw [if_neg (by omega)]
        simp only [impl_isTx.j2]
        rw [if_neg (by simp), wrap_of (by omega) (by omega), e1]
        have h1' : okN (rd_T123 n 0) = true := h1
        simp [h1']
      · rw [if_pos (by omega), wrap_of (x := (i : Int) - 1) (by omega) (by omega), if_pos (by omega), if_pos (by omega), show (i : Int) - 1 = ((i - 1 : Nat) : Int) by omega]
        obtain ⟨v, ev, hv⟩ := cells_ok (rd_T123 n ((i - 1 : Nat) : Int)).f0 (rd_T123 n ((i - 1 : Nat) : Int)).f1 (rd_T123 n i).f0 (rd_T123 n i).f1 k
        rw [ev]
        simp only [Option.bind_some, impl_isTx.j2, hv]
        rw [wrap_of (by omega) (by omega), e1]
        by_cases h3 : less (rd_T123 n ((i - 1 : Nat) : Int)).f0 (rd_T123 n ((i - 1 : Nat) : Int)).f1 (rd_T123 n i).f0 (rd_T123 n i).f1 = true <;> simp [h1, h2, h3]
    · rw [if_neg h1]
      simp [impl_isTx.j2, h1]
def hdr : Prop := ((1 ≤ a ∧ a ≤ 1000000) ∧ (0 ≤ b ∧ b ≤ 7) ∧ (1 ≤ c ∧ c ≤ 9) ∧ (0 ≤ e ∧ e ≤ 1000)) ∧ (n.length ≤ 12 ∧ s.length ≤ 12) ∧ (0 ≤ g ∧ g ≤ 1000000)
instance : Decidable (hdr a b c e g n s) := by unfold hdr; exact inferInstance
theorem spec_tx (k : Nat) (hk : 100 < k) : spec_TxOk.f k a b c e n s g = some (decide (hdr a b c e g n s) && allN n 0 n.length && allS s 0 s.length) := by
  obtain ⟨k, rfl⟩ : ∃ q, k = q + 1 := ⟨k - 1, by omega⟩
  have bad : spec_TxOk.j0 (k + 1) true a b c e n s g = some false := by simp [spec_TxOk.j0]
  simp only [spec_TxOk.f, spec_l1Id.f, spec_l1Machine.f, in_, Option.bind_some, bad]
  by_cases h1 : 1 ≤ a ∧ a ≤ 1000000
  · by_cases h2 : 0 ≤ b ∧ b ≤ 7
    · by_cases h3 : 1 ≤ c ∧ c ≤ 9
      · by_cases h4 : 0 ≤ e ∧ e ≤ 1000
        · rw [if_pos (by simpa using h1), if_pos (by simpa using h2), if_pos (by simpa using h3), if_pos (by simpa using h4)]
          by_cases h5 : n.length ≤ 12
          · rw [if_neg (by omega)]
            by_cases h6 : s.length ≤ 12
            · rw [if_neg (by omega)]
              by_cases h7 : 0 ≤ g ∧ g ≤ 1000000
              · have e1 := spec_notes a b c e g n s h5 n.length 0 k (by omega) (by omega)
                have e2 := spec_sets a b c e g n s h6 s.length 0 (k - 2 * n.length - 1) (by omega) (by omega)
                rw [show ((0 : Nat) : Int) = 0 from rfl] at e1 e2
                rw [e2] at e1
                have hh : hdr a b c e g n s := ⟨⟨h1, h2, h3, h4⟩, ⟨h5, h6⟩, h7⟩
                simp only [spec_TxOk.j0, h7, e1, hh]
                by_cases h8 : allN n 0 n.length = true <;> simp [h8]
              · have hh : ¬ hdr a b c e g n s := fun hh => h7 hh.2.2
                simp [h7, bad, hh]
            · have hh : ¬ hdr a b c e g n s := fun hh => h6 hh.2.1.2
              rw [if_pos (by omega)]
              simp [hh]
          · have hh : ¬ hdr a b c e g n s := fun hh => h5 hh.2.1.1
            rw [if_pos (by omega)]
            simp [hh]
        · have hh : ¬ hdr a b c e g n s := fun hh => h4 hh.1.2.2.2
          simp [h1, h2, h3, h4, hh]
      · have hh : ¬ hdr a b c e g n s := fun hh => h3 hh.1.2.2.1
        simp [h1, h2, h3, hh]
    · have hh : ¬ hdr a b c e g n s := fun hh => h2 hh.1.2.1
      simp [h1, h2, hh]
  · have hh : ¬ hdr a b c e g n s := fun hh => h1 hh.1.1
    simp [h1, hh]
theorem impl_tx (k : Nat) (hk : 100 < k) : impl_isTx.f k a b c e n s g = some (decide (hdr a b c e g n s) && allN n 0 n.length && allS s 0 s.length) := by
  obtain ⟨k, rfl⟩ : ∃ q, k = q + 1 := ⟨k - 1, by omega⟩
  have bad : impl_isTx.j0 (k + 1) true a b c e n s g = some false := by simp [impl_isTx.j0]
  simp only [impl_isTx.f, impl_isId.f, impl_isMachine.f, within_, Option.bind_some, bad]
  by_cases h1 : 1 ≤ a ∧ a ≤ 1000000
  · by_cases h2 : 0 ≤ b ∧ b ≤ 7
    · by_cases h3 : 1 ≤ c ∧ c ≤ 9
      · by_cases h4 : 0 ≤ e ∧ e ≤ 1000
        · by_cases h7 : 0 ≤ g ∧ g ≤ 1000000
          · rw [if_pos (by simpa using h1), if_pos (by simpa using h2), if_pos (by simpa using h3), if_pos (by simpa using h4), if_pos (by simpa using h7)]
            by_cases h5 : n.length ≤ 12
            · rw [if_neg (by omega)]
              by_cases h6 : s.length ≤ 12
              · have e1 := impl_notes a b c e g n s h5 n.length 0 k (by omega) (by omega)
                have e2 := impl_sets a b c e g n s h6 s.length 0 (k - 2 * n.length - 1) (by omega) (by omega)
                rw [show ((0 : Nat) : Int) = 0 from rfl] at e1 e2
                rw [e2] at e1
                have hh : hdr a b c e g n s := ⟨⟨h1, h2, h3, h4⟩, ⟨h5, h6⟩, h7⟩
                have h9 : ¬ ((s.length : Int) > 12) := by omega
                simp only [impl_isTx.j0, h9, e1, hh]
                by_cases h8 : allN n 0 n.length = true <;> simp [h8]
              · have hh : ¬ hdr a b c e g n s := fun hh => h6 hh.2.1.2
                have h9 : ((s.length : Int) > 12) := by omega
                simp [h9, bad, hh]
            · have hh : ¬ hdr a b c e g n s := fun hh => h5 hh.2.1.1
              rw [if_pos (by omega)]
              simp [hh]
          · have hh : ¬ hdr a b c e g n s := fun hh => h7 hh.2.2
            simp [h1, h2, h3, h4, h7, hh]
        · have hh : ¬ hdr a b c e g n s := fun hh => h4 hh.1.2.2.2
          simp [h1, h2, h3, h4, hh]
      · have hh : ¬ hdr a b c e g n s := fun hh => h3 hh.1.2.2.1
        simp [h1, h2, h3, hh]
    · have hh : ¬ hdr a b c e g n s := fun hh => h2 hh.1.2.1
      simp [h1, h2, hh]
  · have hh : ¬ hdr a b c e g n s := fun hh => h1 hh.1.1
    simp [h1, hh]
end
theorem FnExactTxOk : SFnExactTxOk.Pure := by
  intro a b c e n s g _ _ _ _ hn _ hs _ _
  obtain ⟨K, hK⟩ : ∃ K, 1048576 + 1000 < K := ⟨_, Nat.lt_succ_self _⟩
  refine ⟨K, ?_⟩
  unfold laws_FnExactTxOk.f laws_szTx.f
  rw [szNoteS_ok n 1048576 (by omega) (by omega) hn]
  simp only [Option.bind_some]
  by_cases h1 : (1048576 : Int) < (n.length : Int)
  · rw [if_pos h1]
    simp
  · rw [if_neg h1, if_neg (by omega), szSetS_ok s _ (by omega) (by omega) hs]
    simp only [Option.bind_some]
    by_cases h2 : (1048576 : Int) - (n.length : Int) < (s.length : Int)
    · rw [if_pos h2]
      simp
    · have h3 : ¬ ((1048576 : Int) - (n.length : Int) - (s.length : Int) < 0) := by omega
      simp only [h2, h3, if_false, Option.bind_some, laws_toTx.f, toNoteS_ok n (by omega) K (by omega), toSetS_ok s (by omega) K (by omega), spec_tx _ _ _ _ _ _ _ K (by omega), impl_TxOk.f, impl_tx _ _ _ _ _ _ _ K (by omega), laws_eqTx.f, eqNoteS_ok (n.map convN) (by simp; omega) K (by simp; omega), eqSetS_ok (s.map convS) (by simp; omega) K (by simp; omega)]
      simp
end Go.Proofs.Ytodgacnioeoogaa.Pure
