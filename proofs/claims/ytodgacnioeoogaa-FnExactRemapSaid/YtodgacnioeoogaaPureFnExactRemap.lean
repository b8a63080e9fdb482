/- Proved: the law FnExactRemap answers true at every argument: the program answers as the reference, wherever the law's own guards let the argument in. Conditions: none beyond the given row's. -/
import Derived.Test.YtodgacnioeoogaaSFnExactRemap
import Derived.Test.YtodgacnioeoogaaGenRm
namespace Go.Proofs.Ytodgacnioeoogaa.Pure
open Go.RowKit Go.Proofs.Ytodgacnioeoogaa.XRm Go.Proofs.Ytodgacnioeoogaa.Opened Go.Proofs.YtodgacnioeoogaaW.PrintWords Go.Proofs.YtodgacnioeoogaaW.PrintLast Go.Proofs.Ytodgacnioeoogaa.SFnExactRemap Go.Proofs.Ytodgacnioeoogaa.Gen
set_option linter.unusedSimpArgs false
set_option linter.unusedVariables false
theorem in_ (a b c : Int) : spec_l1In.f a b c = some (decide (b ≤ a ∧ a ≤ c)) := by
  unfold spec_l1In.f
  by_cases h : a ≥ b <;> simp [h]
theorem within_ (a b c : Int) : impl_within.f a b c = some (decide (b ≤ a ∧ a ≤ c)) := by
  unfold impl_within.f
  by_cases h : a ≥ b <;> simp [h]
theorem has_from (l : List Int) (n : Int) (hl : l.length ≤ maxLen) : ∀ d i k, i + d = l.length → d < k → spec_l3Has.l0 k l n (i : Int) = some (decide (n ∈ l.drop i)) := by
  unfold maxLen at hl
  intro d
  induction d with
  | zero =>
    intro i k hd hk
    obtain ⟨k, rfl⟩ : ∃ m, k = m + 1 := ⟨k - 1, by omega⟩
    simp only [spec_l3Has.l0]
    rw [if_neg (by omega), List.drop_of_length_le (by omega)]
    simp
  | succ d ih =>
    intro i k hd hk
    obtain ⟨k, rfl⟩ : ∃ m, k = m + 1 := ⟨k - 1, by omega⟩
    simp only [spec_l3Has.l0]
    rw [if_pos (by omega), if_pos (by omega), rd_get (show i < l.length by omega), wrap_of (by omega) (by omega), List.drop_eq_getElem_cons (show i < l.length by omega)]
    by_cases h : l[i] = n
    · rw [if_pos h, decide_eq_true (show n ∈ l[i] :: l.drop (i + 1) by rw [h]; exact List.mem_cons_self)]
    · rw [if_neg h]
      have := ih (i + 1) k (by omega) (by omega)
      rw [show ((i + 1 : Nat) : Int) = (i : Int) + 1 from by omega] at this
      rw [this]
      have h' : ¬ n = l[i] := fun e => h e.symm
      simp only [List.mem_cons, h', false_or]
theorem has_ok (l : List Int) (n : Int) (hl : l.length ≤ maxLen) (k : Nat) (hk : l.length < k) : spec_l3Has.f k l n = some (decide (n ∈ l)) := by
  have := has_from l n hl l.length 0 k (by omega) hk
  simpa [spec_l3Has.f] using this
theorem index_from (l : List Int) (n : Int) (hl : l.length ≤ maxLen) : ∀ d i k, i + d = l.length → d < k → ∃ r, slices_Index_int64_int64.l0 k l n (l.length : Int) (i : Int) = some r ∧ (0 ≤ r ↔ n ∈ l.drop i) := by
  unfold maxLen at hl
  intro d
  induction d with
  | zero =>
    intro i k hd hk
    obtain ⟨k, rfl⟩ : ∃ m, k = m + 1 := ⟨k - 1, by omega⟩
    simp only [slices_Index_int64_int64.l0]
    rw [if_neg (by omega), List.drop_of_length_le (by omega)]
    exact ⟨-1, rfl, by simp⟩
  | succ d ih =>
    intro i k hd hk
    obtain ⟨k, rfl⟩ : ∃ m, k = m + 1 := ⟨k - 1, by omega⟩
    simp only [slices_Index_int64_int64.l0]
    rw [if_pos (by omega), if_pos (by omega), if_pos (by omega), rd_get (show i < l.length by omega), wrap_of (by omega) (by omega), List.drop_eq_getElem_cons (show i < l.length by omega)]
    by_cases h : n = l[i]
    · rw [if_pos h]
      exact ⟨i, rfl, ⟨fun _ => by rw [h]; exact List.mem_cons_self, fun _ => by omega⟩⟩
    · rw [if_neg h]
      have := ih (i + 1) k (by omega) (by omega)
      rw [show ((i + 1 : Nat) : Int) = (i : Int) + 1 from by omega] at this
      obtain ⟨r, e, hr⟩ := this
      exact ⟨r, e, by simp only [hr, List.mem_cons, h, false_or]⟩
theorem contains_ok (l : List Int) (n : Int) (hl : l.length ≤ maxLen) (k : Nat) (hk : l.length < k) : slices_Contains_int64_int64.f k l n = some (decide (n ∈ l)) := by
  obtain ⟨r, e, hr⟩ := index_from l n hl l.length 0 k (by omega) hk
  simp only [slices_Contains_int64_int64.f, slices_Index_int64_int64.f]
  rw [show ((0 : Nat) : Int) = 0 from rfl] at e
  rw [e]
  simp only [List.drop_zero] at hr
  simp [hr]
theorem eqInts_ok (l : List Int) (hl : l.length ≤ maxLen) (k : Nat) (hk : l.length < k) : laws_eqInt64S.f k l l = some true := by
  unfold maxLen at hl
  unfold laws_eqInt64S.f
  rw [if_pos rfl]
  exact loop_to (fun k (s : Int) => laws_eqInt64S.l0 k l l s) (fun i s => s = (i : Int)) l.length 0 true
    (fun k i s _ hi hP => ⟨wrap64 (s + 1), by rw [hP, wrap_of (by omega) (by omega)]; omega, by
      show laws_eqInt64S.l0 (k + 1) l l s = _
      simp only [laws_eqInt64S.l0]
      rw [if_pos (by omega), if_pos (by omega), if_pos (by omega)]
      first | rw [if_pos rfl] | rw [if_pos trivial]⟩)
    (fun k s _ hP => by
      show laws_eqInt64S.l0 (k + 1) l l s = _
      simp only [laws_eqInt64S.l0]
      rw [if_neg (by omega)]) 0 k 0 (by omega) (by omega) rfl
theorem toInts_ok (l : List Int) (hl : l.length ≤ 35184372088832) (k : Nat) (hk : l.length < k) : laws_toInt64S.f k l = some l := by
  unfold laws_toInt64S.f
  rw [if_pos (by omega), if_pos (by omega)]
  exact loop_to (fun k (s : List Int × Int) => laws_toInt64S.l0 k l s.1 s.2) (fun i s => s.2 = (i : Int) ∧ s.1.length = l.length ∧ s.1.take i = l.take i) l.length 0 l
    (fun k i s _ hi hP => ⟨(s.1.set s.2.toNat (rd l s.2), wrap64 (s.2 + 1)), by
      obtain ⟨h1, h2, h3⟩ := hP
      refine ⟨by show wrap64 (s.2 + 1) = _; rw [h1, wrap_of (by omega) (by omega)]; omega, by show (s.1.set _ _).length = _; rw [List.length_set, h2], ?_⟩
      show (s.1.set s.2.toNat (rd l s.2)).take (i + 1) = _
      rw [h1, Int.toNat_natCast]
      exact take_next h2 hi h3 (rd_get hi), by
      obtain ⟨h1, h2, h3⟩ := hP
      show laws_toInt64S.l0 (k + 1) l s.1 s.2 = _
      simp only [laws_toInt64S.l0]
      rw [if_pos (by omega), if_pos (by omega), if_pos (by omega)]⟩)
    (fun k s _ hP => by
      obtain ⟨h1, h2, h3⟩ := hP
      show laws_toInt64S.l0 (k + 1) l s.1 s.2 = _
      simp only [laws_toInt64S.l0]
      rw [if_neg (by omega)]
      rw [List.take_of_length_le (by omega), List.take_of_length_le (by omega)] at h3
      rw [h3]) 0 k (List.replicate ((l.length : Int)).toNat 0, 0) (by omega) (by omega) ⟨rfl, by simp, by simp⟩
theorem szInts (l : List Int) (a : Int) (ha : 0 ≤ a) (ha' : a ≤ 1048576) (hl : l.length ≤ maxLen) : laws_szInt64S.f l a = some (if a < (l.length : Int) then -1 else a - (l.length : Int)) := by
  unfold maxLen at hl
  unfold laws_szInt64S.f
  rw [wrap_of (by omega) (by omega)]
  by_cases h : a < (l.length : Int)
  · rw [if_pos (by omega), if_pos h]
  · rw [if_neg (by omega), if_neg h]
theorem szPlace (l : List Int) (a : Int) (ha : 0 ≤ a) (ha' : a ≤ 1048576) (hl : l.length ≤ maxLen) : laws_szPlace.f l a = some (if a < (l.length : Int) then -1 else a - (l.length : Int)) := by
  unfold laws_szPlace.f
  rw [szInts l a ha ha' hl]
  simp only [Option.bind_some]
  by_cases h : a < (l.length : Int)
  · rw [if_pos h, if_pos (by omega)]
  · rw [if_neg h, if_neg (by omega)]
theorem rdQ_mem {l : List S110} {i : Nat} (h : i < l.length) : rd_T110 l (i : Int) ∈ l := by
  unfold rd_T110
  rw [Int.toNat_natCast, List.getD_eq_getElem?_getD, List.getElem?_eq_getElem h]
  exact List.getElem_mem h
theorem rdQ_get {l : List S110} {i : Nat} (h : i < l.length) : rd_T110 l (i : Int) = l[i] := by
  unfold rd_T110
  rw [Int.toNat_natCast, List.getD_eq_getElem?_getD, List.getElem?_eq_getElem h]
  rfl
theorem rdP_get {l : List S97} {i : Nat} (h : i < l.length) : rd_T97 l (i : Int) = l[i] := by
  unfold rd_T97
  rw [Int.toNat_natCast, List.getD_eq_getElem?_getD, List.getElem?_eq_getElem h]
  rfl
/-- A list of places that is let in is short, and its parts are. -/
theorem szPlaces (l : List S110) (hl : l.length ≤ maxLen) (hm : ∀ x ∈ l, x.f0.length ≤ maxLen) (k : Nat) (hk : l.length < k) : Ok (fun r => 0 ≤ r → l.length ≤ 1048576 ∧ ∀ x ∈ l, x.f0.length ≤ 1048576) (laws_szPlaceS.f k l 1048576) := by
  unfold maxLen at hl hm
  unfold laws_szPlaceS.f
  rw [wrap_of (by omega) (by omega)]
  refine Ok.ite (fun _ => Ok.ret (by omega)) (fun h => ?_)
  obtain ⟨r, hr, e⟩ := loop_inv (fun k (s : Int × Int) => laws_szPlaceS.l0 k l s.1 s.2) (fun i s => s.2 = (i : Int) ∧ 0 ≤ s.1 ∧ s.1 ≤ 1048576 ∧ ∀ j (h : j < l.length), j < i → l[j].f0.length ≤ 1048576) (fun r => 0 ≤ r → l.length ≤ 1048576 ∧ ∀ x ∈ l, x.f0.length ≤ 1048576) l.length 0
    (fun k i s _ hi hP => by
      obtain ⟨h1, h2, h3, h4⟩ := hP
      have e1 : laws_szPlaceS.l0 (k + 1) l s.1 s.2 = if (if s.1 < (l[i].f0.length : Int) then -1 else s.1 - (l[i].f0.length : Int)) < 0 then some (-1) else laws_szPlaceS.l0 k l (if s.1 < (l[i].f0.length : Int) then -1 else s.1 - (l[i].f0.length : Int)) (wrap64 (s.2 + 1)) := by
        simp only [laws_szPlaceS.l0]
        rw [if_pos (by omega), if_pos (by omega), h1, rdQ_get hi, szPlace _ _ h2 h3 (by unfold maxLen; exact hm _ (List.getElem_mem hi))]
        rfl
      by_cases hc : s.1 < (l[i].f0.length : Int)
      · refine .inr ⟨-1, by omega, ?_⟩
        show laws_szPlaceS.l0 (k + 1) l s.1 s.2 = _
        rw [e1, if_pos hc, if_pos (by omega)]
      · refine .inl ⟨(s.1 - (l[i].f0.length : Int), wrap64 (s.2 + 1)), ⟨?_, by show 0 ≤ s.1 - _; omega, by show s.1 - _ ≤ _; omega, fun j h hj => ?_⟩, ?_⟩
        · show wrap64 (s.2 + 1) = _
          rw [h1, wrap_of (by omega) (by omega)]; omega
        · by_cases hji : j = i
          · subst hji; omega
          · exact h4 j h (by omega)
        · show laws_szPlaceS.l0 (k + 1) l s.1 s.2 = _
          rw [e1, if_neg hc, if_neg (by omega)])
    (fun k s _ hP => ⟨s.1, fun _ => ⟨by omega, fun x hx => by
      obtain ⟨j, hj, rfl⟩ := List.mem_iff_getElem.1 hx
      exact hP.2.2.2 j hj hj⟩, by
      show laws_szPlaceS.l0 (k + 1) l s.1 s.2 = _
      have h1 := hP.1
      simp only [laws_szPlaceS.l0]
      rw [if_neg (by omega)]⟩) l.length 0 k (1048576 - (l.length : Int), 0) (by omega) (by omega) ⟨rfl, by show 0 ≤ 1048576 - (l.length : Int); omega, by show 1048576 - (l.length : Int) ≤ _; omega, fun j _ hj => by omega⟩
  exact ⟨r, e, hr⟩
def conv (p : S110) : S97 := ⟨p.f0⟩
theorem toPlaces_ok (l : List S110) (hl : l.length ≤ 1048576) (hm : ∀ x ∈ l, x.f0.length ≤ 1048576) (k : Nat) (hk : l.length + 1048577 < k) : laws_toPlaceS.f k l = some (l.map conv) := by
  unfold laws_toPlaceS.f
  rw [if_pos (by omega), if_pos (by omega)]
  exact loop_to (fun k (s : List S97 × Int) => laws_toPlaceS.l0 k l s.1 s.2) (fun i s => s.2 = (i : Int) ∧ s.1.length = (l.map conv).length ∧ s.1.take i = (l.map conv).take i) l.length 1048577 (l.map conv)
    (fun k i s hk hi hP => ⟨(s.1.set s.2.toNat (⟨l[i].f0⟩ : S97), wrap64 (s.2 + 1)), by
      obtain ⟨h1, h2, h3⟩ := hP
      refine ⟨by show wrap64 (s.2 + 1) = _; rw [h1, wrap_of (by omega) (by omega)]; omega, by show (s.1.set _ _).length = _; rw [List.length_set, h2], ?_⟩
      show (s.1.set s.2.toNat (⟨l[i].f0⟩ : S97)).take (i + 1) = _
      rw [h1, Int.toNat_natCast]
      exact take_next h2 (by simpa using hi) h3 (by simp [conv]), by
      obtain ⟨h1, h2, h3⟩ := hP
      rw [List.length_map] at h2
      show laws_toPlaceS.l0 (k + 1) l s.1 s.2 = _
      simp only [laws_toPlaceS.l0, laws_toPlace.f]
      have hx := hm _ (List.getElem_mem hi)
      rw [if_pos (by omega), if_pos (by omega), h1, rdQ_get hi, toInts_ok _ (by omega) k (by omega)]
      simp only [Option.bind_some]
      rw [if_pos (by omega)]⟩)
    (fun k s hk hP => by
      obtain ⟨h1, h2, h3⟩ := hP
      show laws_toPlaceS.l0 (k + 1) l s.1 s.2 = _
      simp only [laws_toPlaceS.l0]
      rw [if_neg (by omega)]
      rw [List.take_of_length_le (by rw [h2, List.length_map]; omega), List.take_of_length_le (by simp)] at h3
      rw [h3]) 0 k (List.replicate ((l.length : Int)).toNat z97, 0) (by omega) (by omega) ⟨rfl, by simp, by simp⟩
theorem eqPlaces_ok (l : List S97) (hl : l.length ≤ 1048576) (hm : ∀ x ∈ l, x.f0.length ≤ 1048576) (k : Nat) (hk : l.length + 1048577 < k) : laws_eqPlaceS.f k l l = some true := by
  unfold laws_eqPlaceS.f
  rw [if_pos rfl]
  exact loop_to (fun k (s : Int) => laws_eqPlaceS.l0 k l l s) (fun i s => s = (i : Int)) l.length 1048577 true
    (fun k i s hk hi hP => ⟨wrap64 (s + 1), by rw [hP, wrap_of (by omega) (by omega)]; omega, by
      show laws_eqPlaceS.l0 (k + 1) l l s = _
      simp only [laws_eqPlaceS.l0, laws_eqPlace.f]
      have hx := hm _ (List.getElem_mem hi)
      rw [if_pos (by omega), if_pos (by omega), if_pos (by omega), hP, rdP_get hi, eqInts_ok _ (by unfold maxLen; omega) k (by omega)]
      simp⟩)
    (fun k s _ hP => by
      show laws_eqPlaceS.l0 (k + 1) l l s = _
      simp only [laws_eqPlaceS.l0]
      rw [if_neg (by omega)]) 0 k 0 (by omega) (by omega) rfl
/-- Machine j of a place is one, and none ahead of it. -/
def okAt (m : List Int) (j : Nat) : Bool := decide (0 ≤ rd m j ∧ rd m j ≤ 7) && !decide (rd m j ∈ m.take j)
def okRest (m : List Int) : Nat → Nat → Bool
  | _, 0 => true
  | j, d + 1 => okAt m j && okRest m (j + 1) d
def okP (p : S97) : Bool := decide (1 ≤ p.f0.length ∧ p.f0.length ≤ 3) && okRest p.f0 0 p.f0.length
def okAll (l : List S97) : Nat → Nat → Bool
  | _, 0 => true
  | i, d + 1 => okP (rd_T97 l i) && okAll l (i + 1) d
/-- Places are right. -/
def okPl (l : List S97) : Bool := decide (1 ≤ l.length ∧ l.length ≤ 6) && okAll l 0 l.length
theorem spec_in (x0 : List S97) (x3 : Int) (m : List Int) (hm : m.length ≤ 3) : ∀ d j k, j + d = m.length → d + 5 < k → spec_PlacesOk.l1 k x0 x3 m (j : Int) = if okRest m j d = true then spec_PlacesOk.l0 (k - d - 1) x0 (wrap64 (x3 + 1)) else some false := by
  intro d
  induction d with
  | zero =>
    intro j k hd hk
    obtain ⟨k, rfl⟩ : ∃ q, k = q + 1 := ⟨k - 1, by omega⟩
    simp only [spec_PlacesOk.l1]
    rw [if_neg (by omega)]
    simp [okRest]
  | succ d ih =>
    intro j k hd hk
    obtain ⟨k, rfl⟩ : ∃ q, k = q + 1 := ⟨k - 1, by omega⟩
    simp only [spec_PlacesOk.l1, spec_l1Machine.f, in_, Option.bind_some]
    rw [if_pos (by omega), if_pos (by omega), if_pos (show (j : Int) ≤ (m.length : Int) by omega), Int.toNat_natCast, has_ok _ _ (by simp [maxLen]; omega) k (by simp; omega), wrap_of (by omega) (by omega)]
    have e := ih (j + 1) k (by omega) (by omega)
    rw [show ((j + 1 : Nat) : Int) = (j : Int) + 1 from by omega] at e
    rw [e]
    simp only [okRest, okAt, Option.bind_some]
    by_cases h1 : 0 ≤ rd m j ∧ rd m j ≤ 7 <;> by_cases h2 : rd m j ∈ m.take j <;> simp [h1, h2, show k - d - 1 = k + 1 - (d + 1) - 1 from by omega]
theorem spec_out (l : List S97) (hl : l.length ≤ 6) : ∀ d i k, i + d = l.length → 8 * d + 8 < k → spec_PlacesOk.l0 k l (i : Int) = some (okAll l i d) := by
  intro d
  induction d with
  | zero =>
    intro i k hd hk
    obtain ⟨k, rfl⟩ : ∃ q, k = q + 1 := ⟨k - 1, by omega⟩
    simp only [spec_PlacesOk.l0]
    rw [if_neg (by omega)]
    simp [okAll]
  | succ d ih =>
    intro i k hd hk
    obtain ⟨k, rfl⟩ : ∃ q, k = q + 1 + 1 := ⟨k - 2, by omega⟩
    simp only [spec_PlacesOk.l0]
    rw [if_pos (by omega), if_pos (by omega)]
    simp only [okAll, okP]
    by_cases h1 : ((rd_T97 l i).f0.length : Int) < 1
    · have h2 : ¬ (1 ≤ (rd_T97 l i).f0.length ∧ (rd_T97 l i).f0.length ≤ 3) := by omega
      rw [if_pos h1]
      simp [spec_PlacesOk.j2, h2]
    · rw [if_neg h1]
      by_cases h3 : (rd_T97 l i).f0.length ≤ 3
      · have h2 : (1 ≤ (rd_T97 l i).f0.length ∧ (rd_T97 l i).f0.length ≤ 3) := by omega
        simp only [spec_PlacesOk.j2]
        rw [if_neg (by simp; omega)]
        have e := spec_in l (i : Int) (rd_T97 l i).f0 h3 (rd_T97 l i).f0.length 0 k (by omega) (by omega)
        rw [show ((0 : Nat) : Int) = 0 from rfl] at e
        rw [e, wrap_of (by omega) (by omega)]
        have e2 := ih (i + 1) (k - (rd_T97 l i).f0.length - 1) (by omega) (by omega)
        rw [show ((i + 1 : Nat) : Int) = (i : Int) + 1 from by omega] at e2
        rw [e2]
        by_cases h4 : okRest (rd_T97 l i).f0 0 (rd_T97 l i).f0.length = true <;> simp [h2, h4]
      · have h2 : ¬ (1 ≤ (rd_T97 l i).f0.length ∧ (rd_T97 l i).f0.length ≤ 3) := by omega
        simp only [spec_PlacesOk.j2]
        rw [if_pos (by simp; omega)]
        simp [h2]
theorem spec_places (l : List S97) (k : Nat) (hk : 100 < k) : spec_PlacesOk.f k l = some (okPl l) := by
  obtain ⟨k, rfl⟩ : ∃ q, k = q + 1 := ⟨k - 1, by omega⟩
  simp only [spec_PlacesOk.f, spec_PlacesOk.j0, okPl]
  by_cases h1 : (l.length : Int) < 1
  · have h2 : ¬ (1 ≤ l.length ∧ l.length ≤ 6) := by omega
    rw [if_pos h1]
    simp [h2]
  · rw [if_neg h1]
    by_cases h3 : l.length ≤ 6
    · have h2 : (1 ≤ l.length ∧ l.length ≤ 6) := by omega
      rw [if_neg (by simp; omega)]
      have e := spec_out l h3 l.length 0 k (by omega) (by omega)
      rw [show ((0 : Nat) : Int) = 0 from rfl] at e
      rw [e]
      simp [h2]
    · have h2 : ¬ (1 ≤ l.length ∧ l.length ≤ 6) := by omega
      rw [if_pos (by simp; omega)]
      simp [h2]
theorem impl_in (x0 x7 : List S97) (x8 x9 : Int) (m : List Int) (hm : m.length ≤ 3) : ∀ d j k, j + d = m.length → d + 5 < k → impl_arePlaces.l1 k x0 x7 x8 x9 m (m.length : Int) (j : Int) m = if okRest m j d = true then impl_arePlaces.l0 (k - d - 1) x0 x7 x8 (wrap64 (x9 + 1)) else some false := by
  intro d
  induction d with
  | zero =>
    intro j k hd hk
    obtain ⟨k, rfl⟩ : ∃ q, k = q + 1 := ⟨k - 1, by omega⟩
    simp only [impl_arePlaces.l1]
    rw [if_neg (by omega)]
    simp [okRest]
  | succ d ih =>
    intro j k hd hk
    obtain ⟨k, rfl⟩ : ∃ q, k = q + 1 := ⟨k - 1, by omega⟩
    simp only [impl_arePlaces.l1, impl_isMachine.f, within_, Option.bind_some]
    rw [if_pos (by omega), if_pos (by omega), if_pos (by omega), if_pos (show (j : Int) ≤ (m.length : Int) by omega), Int.toNat_natCast, contains_ok _ _ (by simp [maxLen]; omega) k (by simp; omega), wrap_of (by omega) (by omega)]
    have e := ih (j + 1) k (by omega) (by omega)
    rw [show ((j + 1 : Nat) : Int) = (j : Int) + 1 from by omega] at e
    rw [e]
    simp only [okRest, okAt, Option.bind_some]
    by_cases h1 : 0 ≤ rd m j ∧ rd m j ≤ 7 <;> by_cases h2 : rd m j ∈ m.take j <;> simp [h1, h2, show k - d - 1 = k + 1 - (d + 1) - 1 from by omega]
theorem impl_out (l : List S97) (hl : l.length ≤ 1048576) : ∀ d i k, i + d = l.length → 8 * d + 8 < k → impl_arePlaces.l0 k l l (l.length : Int) (i : Int) = some (okAll l i d && decide (1 ≤ l.length ∧ l.length ≤ 6)) := by
  intro d
  induction d with
  | zero =>
    intro i k hd hk
    obtain ⟨k, rfl⟩ : ∃ q, k = q + 1 := ⟨k - 1, by omega⟩
    simp only [impl_arePlaces.l0, impl_Place.f, within_, Option.bind_some]
    rw [if_neg (by omega)]
    by_cases h : 1 ≤ l.length ∧ l.length ≤ 6
    · have h' : 1 ≤ (l.length : Int) ∧ (l.length : Int) ≤ 6 := by omega
      simp [okAll, h, h']
    · have h' : ¬ (1 ≤ (l.length : Int) ∧ (l.length : Int) ≤ 6) := by omega
      simp only [okAll, h, h']
      simp
  | succ d ih =>
    intro i k hd hk
    obtain ⟨k, rfl⟩ : ∃ q, k = q + 1 := ⟨k - 1, by omega⟩
    simp only [impl_arePlaces.l0, impl_size_int64.f, within_, Option.bind_some]
    rw [if_pos (by omega), if_pos (by omega), if_pos (by omega)]
    simp only [okAll, okP]
    by_cases h2 : 1 ≤ (rd_T97 l i).f0.length ∧ (rd_T97 l i).f0.length ≤ 3
    · have h' : 1 ≤ ((rd_T97 l i).f0.length : Int) ∧ ((rd_T97 l i).f0.length : Int) ≤ 3 := by omega
      rw [if_pos (by simpa using h')]
      have e := impl_in l l (l.length : Int) (i : Int) (rd_T97 l i).f0 h2.2 (rd_T97 l i).f0.length 0 k (by omega) (by omega)
      rw [show ((0 : Nat) : Int) = 0 from rfl] at e
      rw [e, wrap_of (by omega) (by omega)]
      have e2 := ih (i + 1) (k - (rd_T97 l i).f0.length - 1) (by omega) (by omega)
      rw [show ((i + 1 : Nat) : Int) = (i : Int) + 1 from by omega] at e2
      rw [e2]
      by_cases h4 : okRest (rd_T97 l i).f0 0 (rd_T97 l i).f0.length = true <;> simp [h2, h4]
    · have h' : ¬ (1 ≤ ((rd_T97 l i).f0.length : Int) ∧ ((rd_T97 l i).f0.length : Int) ≤ 3) := by omega
      rw [if_neg (by simpa using h')]
      simp [h2]
theorem impl_places (l : List S97) (hl : l.length ≤ 1048576) (k : Nat) (hk : 8 * l.length + 8 < k) : impl_arePlaces.f k l = some (okPl l) := by
  have e := impl_out l hl l.length 0 k (by omega) hk
  rw [show ((0 : Nat) : Int) = 0 from rfl] at e
  simp only [impl_arePlaces.f]
  rw [e, okPl, Bool.and_comm]
theorem markInts_step (k : Nat) (x : List Int) (c : Int) (i : Nat) (hi : i < x.length) (hx : x.length ≤ 9000000000000) (h0 : 0 ≤ c) (h1 : c ≤ 4611686018427387904) : laws_markInt64S.l0 (k + 1) x c (i : Int) = laws_markInt64S.l0 k (x.set i c) (c + 1) ((i + 1 : Nat) : Int) := by
  simp only [laws_markInt64S.l0]
  rw [if_pos (by omega), if_pos (by omega), wrap_of (x := (i : Int) + 1) (by omega) (by omega), wrap_of (x := c + 1) (by omega) (by omega)]
  simp only [Option.bind_some, Int.toNat_natCast]
  rfl
theorem heldInts_step (k : Nat) (x : List Int) (c : Int) (i : Nat) (hi : i < x.length) (hx : x.length ≤ 9000000000000) (h0 : 0 ≤ c) (h1 : c ≤ 4611686018427387904) (h : x[i] = c) : laws_heldInt64S.l0 (k + 1) x c (i : Int) = laws_heldInt64S.l0 k x (c + 1) ((i + 1 : Nat) : Int) := by
  simp only [laws_heldInt64S.l0]
  rw [if_pos (by omega), if_pos (by omega), wrap_of (x := (i : Int) + 1) (by omega) (by omega), wrap_of (x := c + 1) (by omega) (by omega), rd_get hi, h]
  simp
theorem markInts_ok (x : List Int) (m : Int) (h0 : 0 ≤ m) (h1 : m ≤ 1000000000000000) (hx : x.length ≤ 9000000000000) (k : Nat) (hk : x.length < k) :
    ∃ y : List Int, y.length = x.length ∧ laws_markInt64S.f k x m = some (m + (x.length : Int), y) ∧ ∀ k', y.length < k' → laws_heldInt64S.f k' y m = some (m + (x.length : Int)) := by
  have key : ∀ d i k (y : List Int), i + d = x.length → d < k → y.length = x.length → (∀ j (h : j < y.length), j < i → y[j] = m + (j : Int)) →
      ∃ z : List Int, z.length = x.length ∧ laws_markInt64S.l0 k y (m + (i : Int)) (i : Int) = some (m + (x.length : Int), z) ∧ ∀ j (h : j < z.length), z[j] = m + (j : Int) := by
    intro d
    induction d with
    | zero =>
      intro i k y hd hk hl hy
      obtain ⟨k, rfl⟩ : ∃ q, k = q + 1 := ⟨k - 1, by omega⟩
      refine ⟨y, hl, ?_, fun j h => hy j h (by omega)⟩
      simp only [laws_markInt64S.l0]
      rw [if_neg (by omega), show i = x.length by omega]
    | succ d ih =>
      intro i k y hd hk hl hy
      obtain ⟨k, rfl⟩ : ∃ q, k = q + 1 := ⟨k - 1, by omega⟩
      rw [markInts_step k y _ i (by omega) (by omega) (by omega) (by omega)]
      have e := ih (i + 1) k (y.set i (m + (i : Int))) (by omega) (by omega) (by rw [List.length_set, hl]) (fun j h hj => by
        by_cases hji : j = i
        · subst hji; simp
        · rw [List.getElem_set_ne (by omega)]
          exact hy j (by rw [List.length_set] at h; exact h) (by omega))
      rw [show m + ((i + 1 : Nat) : Int) = m + (i : Int) + 1 by omega] at e
      exact e
  obtain ⟨y, hl, e, hy⟩ := key x.length 0 k x (by omega) hk rfl (fun j _ hj => by omega)
  refine ⟨y, hl, ?_, fun k' hk' => ?_⟩
  · unfold laws_markInt64S.f
    rw [show m + ((0 : Nat) : Int) = m by omega] at e
    exact e
  · have key2 : ∀ d i k, i + d = y.length → d < k → laws_heldInt64S.l0 k y (m + (i : Int)) (i : Int) = some (m + (y.length : Int)) := by
      intro d
      induction d with
      | zero =>
        intro i k hd hk
        obtain ⟨k, rfl⟩ : ∃ q, k = q + 1 := ⟨k - 1, by omega⟩
        simp only [laws_heldInt64S.l0]
        rw [if_neg (by omega), show i = y.length by omega]
      | succ d ih =>
        intro i k hd hk
        obtain ⟨k, rfl⟩ : ∃ q, k = q + 1 := ⟨k - 1, by omega⟩
        rw [heldInts_step k y _ i (by omega) (by omega) (by omega) (by omega) (hy i (by omega))]
        have e := ih (i + 1) k (by omega) (by omega)
        rw [show m + ((i + 1 : Nat) : Int) = m + (i : Int) + 1 by omega] at e
        exact e
    have e2 := key2 y.length 0 k' (by omega) hk'
    rw [show m + ((0 : Nat) : Int) = m by omega, hl] at e2
    unfold laws_heldInt64S.f
    exact e2
def tot : List S97 → Int
  | [] => 0
  | x :: l => (x.f0.length : Int) + tot l
theorem tot_nonneg : ∀ l, 0 ≤ tot l
  | [] => by simp [tot]
  | x :: l => by have := tot_nonneg l; simp only [tot]; omega
theorem tot_le (l : List S97) (B : Nat) (h : ∀ x ∈ l, x.f0.length ≤ B) : tot l ≤ (B : Int) * (l.length : Int) := by
  induction l with
  | nil => simp [tot]
  | cons x l ih =>
    have h1 := ih (fun y hy => h y (List.mem_cons_of_mem _ hy))
    have h2 := h x List.mem_cons_self
    simp only [tot, List.length_cons]
    rw [show ((l.length + 1 : Nat) : Int) = (l.length : Int) + 1 from by omega, Int.mul_add, Int.mul_one]
    omega
/-- What a row of places is that has been marked from c on: each place's numbers hold. -/
def Marked : List S97 → Int → Int → Prop
  | [], c, c' => c' = c
  | x :: l, c, c' => (∀ k', x.f0.length < k' → laws_heldInt64S.f k' x.f0 c = some (c + (x.f0.length : Int))) ∧ Marked l (c + (x.f0.length : Int)) c'
theorem markPl_loop (B : Nat) : ∀ (rest done : List S97) (k : Nat) (c : Int), 0 ≤ c → c + tot rest ≤ 1000000000000000 → (∀ x ∈ rest, x.f0.length ≤ B) → B ≤ 1048576 → done.length + rest.length ≤ 1048576 → rest.length + B + 1 < k →
    ∃ z : List S97, z.length = rest.length ∧ (∀ x ∈ z, x.f0.length ≤ B) ∧ laws_markPlaceS.l0 k (done ++ rest) c (done.length : Int) = some (c + tot rest, done ++ z) ∧ Marked z c (c + tot rest) := by
  intro rest
  induction rest with
  | nil =>
    intro done k c h0 h1 h2 hB h3 h4
    obtain ⟨k, rfl⟩ : ∃ q, k = q + 1 := ⟨k - 1, by omega⟩
    refine ⟨[], rfl, fun _ h => absurd h (by simp), ?_, by simp [Marked, tot]⟩
    simp only [laws_markPlaceS.l0]
    rw [if_neg (by simp)]
    simp [tot]
  | cons x rest ih =>
    intro done k c h0 h1 h2 hB h3 h4
    simp only [List.length_cons] at h3 h4
    obtain ⟨k, rfl⟩ : ∃ q, k = q + 1 := ⟨k - 1, by omega⟩
    have hx := h2 x List.mem_cons_self
    have ht := tot_nonneg rest
    simp only [tot] at h1
    obtain ⟨y, yl, ym, yh⟩ := markInts_ok x.f0 c h0 (by omega) (by omega) k (by omega)
    obtain ⟨z, zl, zb, zm, zh⟩ := ih (done ++ [⟨y⟩]) k (c + (x.f0.length : Int)) (by omega) (by omega) (fun w hw => h2 w (List.mem_cons_of_mem _ hw)) hB (by simp; omega) (by omega)
    refine ⟨⟨y⟩ :: z, by simp [zl], fun w hw => ?_, ?_, ?_⟩
    · rcases List.mem_cons.1 hw with rfl | hw
      · show y.length ≤ B; omega
      · exact zb w hw
    · simp only [laws_markPlaceS.l0]
      rw [if_pos (by simp; omega), if_pos (by omega), rdP_get (show done.length < (done ++ x :: rest).length by simp), List.getElem_append_right (Nat.le_refl _)]
      simp only [Nat.sub_self, List.getElem_cons_zero]
      rw [ym]
      simp only [Option.bind_some]
      rw [Int.toNat_natCast, List.set_append_right _ _ (Nat.le_refl _), Nat.sub_self, List.set_cons_zero, wrap_of (by omega) (by omega)]
      have e := zm
      rw [List.append_assoc, List.append_assoc] at e
      simp only [List.length_append, List.length_cons, List.length_nil, List.cons_append, List.nil_append] at e
      rw [show ((done.length + (0 + 1) : Nat) : Int) = (done.length : Int) + 1 from by omega] at e
      rw [e]
      simp only [tot]
      rw [Int.add_assoc]
    · simp only [Marked, tot]
      rw [← Int.add_assoc, yl]
      exact ⟨fun k' hk' => yh k' (by first | exact hk' | omega), zh⟩
theorem heldPl_loop (B : Nat) (all : List S97) (hall : all.length ≤ 1048576) (hb : ∀ x ∈ all, x.f0.length ≤ B) : ∀ (rest : List S97) (i : Nat) (k : Nat) (c c' : Int), all.drop i = rest → 0 ≤ c → Marked rest c c' → rest.length + B + 1 < k → laws_heldPlaceS.l0 k all c (i : Int) = some c' := by
  intro rest
  induction rest with
  | nil =>
    intro i k c c' hd h0 hm hk
    obtain ⟨k, rfl⟩ : ∃ q, k = q + 1 := ⟨k - 1, by omega⟩
    have : all.length ≤ i := by have := congrArg List.length hd; simp at this; omega
    simp only [laws_heldPlaceS.l0]
    rw [if_neg (by omega), show c' = c from hm]
  | cons x rest ih =>
    intro i k c c' hd h0 hm hk
    obtain ⟨k, rfl⟩ : ∃ q, k = q + 1 := ⟨k - 1, by omega⟩
    have hi : i < all.length := by have := congrArg List.length hd; simp at this; omega
    have hx : all[i] = x := by
      have := congrArg (fun l => l[0]?) hd
      simp only [List.getElem?_drop, List.getElem?_cons_zero, Nat.add_zero, List.getElem?_eq_getElem hi, Option.some.injEq] at this
      exact this
    have hbx := hb x (hx ▸ List.getElem_mem hi)
    simp only [List.length_cons] at hk
    simp only [laws_heldPlaceS.l0]
    rw [if_pos (by omega), if_pos (by omega), rdP_get hi, hx, hm.1 k (by omega)]
    simp only [Option.bind_some]
    rw [if_neg (by omega), wrap_of (by omega) (by omega)]
    have e := ih (i + 1) k (c + (x.f0.length : Int)) c' (by rw [← List.tail_drop, hd]; rfl) (by omega) hm.2 (by omega)
    rw [show ((i + 1 : Nat) : Int) = (i : Int) + 1 from by omega] at e
    exact e
theorem markPl_ok (B : Nat) (hB : B ≤ 1048576) (l : List S97) (hl : l.length ≤ 1048576) (hb : ∀ x ∈ l, x.f0.length ≤ B) (ht : tot l ≤ 900000000000000) (m : Int) (h0 : 0 ≤ m) (h1 : m ≤ 1000000000000) (k : Nat) (hk : l.length + B + 1 < k) :
    ∃ z : List S97, laws_markPlaceS.f k l m = some (m + tot l, z) ∧ ∀ k', l.length + B + 1 < k' → laws_heldPlaceS.f k' z m = some (m + tot l) := by
  obtain ⟨z, zl, zb, zm, zh⟩ := markPl_loop B l [] k m h0 (by omega) hb hB (by simpa using hl) hk
  refine ⟨z, ?_, fun k' hk' => ?_⟩
  · unfold laws_markPlaceS.f
    simpa using zm
  · unfold laws_heldPlaceS.f
    have e := heldPl_loop B z (by omega) zb z 0 k' m _ (by simp) h0 zh (by omega)
    simpa using e
theorem rdB_get {l : List Bool} {i : Nat} (h : i < l.length) : rdOf false l (i : Int) = l[i] := by
  unfold rdOf
  rw [Int.toNat_natCast, List.getD_eq_getElem?_getD, List.getElem?_eq_getElem h]
  rfl
theorem toBools_ok (l : List Bool) (hl : l.length ≤ 1048576) (k : Nat) (hk : l.length < k) : laws_toBoolS.f k l = some l := by
  unfold laws_toBoolS.f
  rw [if_pos (by omega), if_pos (by omega)]
  exact loop_to (fun k (s : List Bool × Int) => laws_toBoolS.l0 k l s.1 s.2) (fun i s => s.2 = (i : Int) ∧ s.1.length = l.length ∧ s.1.take i = l.take i) l.length 0 l
    (fun k i s _ hi hP => ⟨(s.1.set s.2.toNat (rdOf false l s.2), wrap64 (s.2 + 1)), by
      obtain ⟨h1, h2, h3⟩ := hP
      refine ⟨by show wrap64 (s.2 + 1) = _; rw [h1, wrap_of (by omega) (by omega)]; omega, by show (s.1.set _ _).length = _; rw [List.length_set, h2], ?_⟩
      show (s.1.set s.2.toNat (rdOf false l s.2)).take (i + 1) = _
      rw [h1, Int.toNat_natCast]
      exact take_next h2 hi h3 (rdB_get hi), by
      obtain ⟨h1, h2, h3⟩ := hP
      show laws_toBoolS.l0 (k + 1) l s.1 s.2 = _
      simp only [laws_toBoolS.l0]
      rw [if_pos (by omega), if_pos (by omega), if_pos (by omega)]⟩)
    (fun k s _ hP => by
      obtain ⟨h1, h2, h3⟩ := hP
      show laws_toBoolS.l0 (k + 1) l s.1 s.2 = _
      simp only [laws_toBoolS.l0]
      rw [if_neg (by omega)]
      rw [List.take_of_length_le (by omega), List.take_of_length_le (by omega)] at h3
      rw [h3]) 0 k (List.replicate ((l.length : Int)).toNat false, 0) (by omega) (by omega) ⟨rfl, by simp, by simp⟩
theorem eqBools_ok (l : List Bool) (hl : l.length ≤ 1048576) (k : Nat) (hk : l.length < k) : laws_eqBoolS.f k l l = some true := by
  unfold laws_eqBoolS.f
  rw [if_pos rfl]
  exact loop_to (fun k (s : Int) => laws_eqBoolS.l0 k l l s) (fun i s => s = (i : Int)) l.length 0 true
    (fun k i s _ hi hP => ⟨wrap64 (s + 1), by rw [hP, wrap_of (by omega) (by omega)]; omega, by
      show laws_eqBoolS.l0 (k + 1) l l s = _
      simp only [laws_eqBoolS.l0]
      rw [if_pos (by omega), if_pos (by omega), if_pos (by omega)]
      simp⟩)
    (fun k s _ hP => by
      show laws_eqBoolS.l0 (k + 1) l l s = _
      simp only [laws_eqBoolS.l0]
      rw [if_neg (by omega)]) 0 k 0 (by omega) (by omega) rfl
theorem markBools_loop : ∀ (d i : Nat) (x : List Bool) (c : Int) (k : Nat), i + d = x.length → 0 ≤ c → c + (d : Int) ≤ 1000000000000000 → x.length ≤ 1048576 → d < k → ∃ y, laws_markBoolS.l0 k x c (i : Int) = some (c + (d : Int), y) := by
  intro d
  induction d with
  | zero =>
    intro i x c k hd h0 h1 hx hk
    obtain ⟨k, rfl⟩ : ∃ q, k = q + 1 := ⟨k - 1, by omega⟩
    refine ⟨x, ?_⟩
    simp only [laws_markBoolS.l0]
    rw [if_neg (by omega)]
    simp
  | succ d ih =>
    intro i x c k hd h0 h1 hx hk
    obtain ⟨k, rfl⟩ : ∃ q, k = q + 1 := ⟨k - 1, by omega⟩
    simp only [laws_markBoolS.l0]
    rw [if_pos (by omega), if_pos (by omega), wrap_of (x := c + 1) (by omega) (by omega), wrap_of (x := (i : Int) + 1) (by omega) (by omega)]
    obtain ⟨y, hy⟩ := ih (i + 1) (x.set (i : Int).toNat (Int.tmod c 3 == 0)) (c + 1) k (by rw [List.length_set]; omega) (by omega) (by omega) (by rw [List.length_set]; omega) (by omega)
    rw [show ((i + 1 : Nat) : Int) = (i : Int) + 1 from by omega] at hy
    exact ⟨y, by rw [hy]; congr 2; omega⟩
def lives (b : List Bool) (v : Int) : Bool := if v < (b.length : Int) then rdOf false b v else false
theorem lives_s (b : List Bool) (v : Int) (h : 0 ≤ v) : spec_l5Lives.f b v = some (lives b v) := by
  unfold spec_l5Lives.f lives
  by_cases hv : v < (b.length : Int) <;> simp [hv, h]
theorem lives_i (b : List Bool) (v : Int) (h : 0 ≤ v) : impl_remap_1.f v b = some (lives b v) := by
  unfold impl_remap_1.f lives
  by_cases hv : v < (b.length : Int) <;> simp [hv, h]
def fill (b : List Bool) : Nat → Nat → List Int → List Int
  | 0, _, nx => nx
  | d + 1, q, nx => fill b d (q + 1) (if rdOf false b (q : Int) = true ∧ nx.length < 3 ∧ ¬ (q : Int) ∈ nx then nx ++ [(q : Int)] else nx)
theorem fill_full (b : List Bool) : ∀ d q nx, 3 ≤ nx.length → fill b d q nx = nx
  | 0, _, _, _ => rfl
  | d + 1, q, nx, h => by
    simp only [fill]
    rw [if_neg (by omega)]
    exact fill_full b d (q + 1) nx h
theorem fill_len (b : List Bool) : ∀ d q nx, nx.length ≤ 3 → (fill b d q nx).length ≤ 3
  | 0, _, _, h => h
  | d + 1, q, nx, h => by
    simp only [fill]
    split
    · rename_i hc
      exact fill_len b d (q + 1) _ (by simp; omega)
    · exact fill_len b d (q + 1) _ h
/-- What both come to. -/
def re (m : List S97) (b : List Bool) : Nat → Nat → List Int → List S97 → List S97 × List Int
  | 0, _, lost, out => (out, lost)
  | d + 1, i, lost, out => if ((rd_T97 m (i : Int)).f0.filter (lives b)).length = 0 then re m b d (i + 1) (lost ++ [(i : Int)]) (out ++ [⟨(rd_T97 m (i : Int)).f0⟩]) else re m b d (i + 1) lost (out ++ [⟨fill b b.length 0 ((rd_T97 m (i : Int)).f0.filter (lives b))⟩])
theorem spec_fill (m : List S97) (b : List Bool) (hb : b.length ≤ 8) (R : List S97 × List Int) (C : Nat) : ∀ d q nx k i lost (out : List S97), q + d = b.length → nx.length ≤ 3 → out.length ≤ 6 → (∀ k', C < k' → spec_Remap.l0 k' m b lost (out ++ [⟨fill b d q nx⟩]) (wrap64 (i + 1)) = some R) → C + 2 * d + 12 < k → spec_Remap.l2 k m b lost out i (q : Int) nx = some R := by
  intro d
  induction d with
  | zero =>
    intro q nx k i lost out hd hn ho hc hk
    obtain ⟨k, rfl⟩ : ∃ z, k = z + 1 + 1 := ⟨k - 2, by omega⟩
    simp only [spec_Remap.l2, spec_Remap.j4]
    rw [if_neg (by omega), if_neg (by simp), if_pos (by omega)]
    exact hc k (by omega)
  | succ d ih =>
    intro q nx k i lost out hd hn ho hc hk
    obtain ⟨k, rfl⟩ : ∃ z, k = z + 1 + 1 := ⟨k - 2, by omega⟩
    simp only [spec_Remap.l2]
    rw [if_pos (by omega)]
    by_cases hf : nx.length < 3
    · rw [decide_eq_true (show (nx.length : Int) < 3 by omega)]
      simp only [spec_Remap.j4]
      rw [if_pos trivial, if_pos (by omega), if_pos (by omega), wrap_of (x := (q : Int) + 1) (by omega) (by omega)]
      have hc' : ∀ nx', (if rdOf false b (q : Int) = true ∧ nx.length < 3 ∧ ¬ (q : Int) ∈ nx then nx ++ [(q : Int)] else nx) = nx' → nx'.length ≤ 3 → spec_Remap.l2 k m b lost out i ((q : Int) + 1) nx' = some R := by
        intro nx' e hl
        have := ih (q + 1) nx' k i lost out (by omega) hl ho (fun k' hk' => by
          have h2 := hc k' hk'
          simp only [fill] at h2
          rw [e] at h2
          exact h2) (by omega)
        rw [show ((q + 1 : Nat) : Int) = (q : Int) + 1 from by omega] at this
        exact this
      by_cases hr : rdOf false b (q : Int) = true
      · rw [if_pos hr, has_ok _ _ (by unfold maxLen; omega) k (by omega)]
        simp only [Option.bind_some]
        by_cases hm : (q : Int) ∈ nx
        · rw [if_pos (by simpa using hm)]
          exact hc' nx (if_neg (by simp [hm])) hn
        · rw [if_neg (by simpa using hm), if_pos (by omega)]
          exact hc' _ (if_pos ⟨hr, hf, hm⟩) (by simp; omega)
      · rw [if_neg hr]
        exact hc' nx (if_neg (by simp [hr])) hn
    · rw [decide_eq_false (show ¬ (nx.length : Int) < 3 by omega)]
      simp only [spec_Remap.j4]
      rw [if_neg (by simp), if_pos (by omega)]
      have h2 := hc k (by omega)
      rw [fill_full b _ _ _ (by omega)] at h2
      exact h2
theorem impl_fill (m : List S97) (b : List Bool) (hb : b.length ≤ 8) (R : List S97 × List Int) (C : Nat) : ∀ d q nx k i lost (out : List S97) n, q + d = b.length → nx.length ≤ 3 → out.length ≤ 6 → (∀ k', C < k' → impl_remap.l0 k' (out ++ [⟨fill b d q nx⟩]) lost m n (wrap64 (i + 1)) b = some R) → C + d + 12 < k → impl_remap.l2 k out lost m n i (b.length : Int) (q : Int) b nx = some R := by
  intro d
  induction d with
  | zero =>
    intro q nx k i lost out n hd hn ho hc hk
    obtain ⟨k, rfl⟩ : ∃ z, k = z + 1 := ⟨k - 1, by omega⟩
    simp only [impl_remap.l2]
    rw [if_neg (by omega), if_pos (by omega)]
    exact hc k (by omega)
  | succ d ih =>
    intro q nx k i lost out n hd hn ho hc hk
    obtain ⟨k, rfl⟩ : ∃ z, k = z + 1 := ⟨k - 1, by omega⟩
    simp only [impl_remap.l2]
    rw [if_pos (by omega), if_pos (by omega), if_pos (by omega), wrap_of (x := (q : Int) + 1) (by omega) (by omega)]
    have hc' : ∀ nx', (if rdOf false b (q : Int) = true ∧ nx.length < 3 ∧ ¬ (q : Int) ∈ nx then nx ++ [(q : Int)] else nx) = nx' → nx'.length ≤ 3 → impl_remap.l2 k out lost m n i (b.length : Int) ((q : Int) + 1) b nx' = some R := by
      intro nx' e hl
      have := ih (q + 1) nx' k i lost out n (by omega) hl ho (fun k' hk' => by
        have h2 := hc k' hk'
        simp only [fill] at h2
        rw [e] at h2
        exact h2) (by omega)
      rw [show ((q + 1 : Nat) : Int) = (q : Int) + 1 from by omega] at this
      exact this
    by_cases hr : rdOf false b (q : Int) = true
    · rw [if_pos hr]
      by_cases hf : nx.length < 3
      · rw [if_pos (by omega), contains_ok _ _ (by unfold maxLen; omega) k (by omega)]
        simp only [Option.bind_some]
        by_cases hm : (q : Int) ∈ nx
        · rw [if_pos (by simpa using hm)]
          exact hc' nx (if_neg (by simp [hm])) hn
        · rw [if_neg (by simpa using hm), if_pos (by omega)]
          exact hc' _ (if_pos ⟨hr, hf, hm⟩) (by simp; omega)
      · rw [if_neg (by omega)]
        exact hc' nx (if_neg (by omega)) hn
    · rw [if_neg hr]
      exact hc' nx (if_neg (by simp [hr])) hn
theorem drop_step {p : List Int} {j : Nat} (h : j < p.length) (b : List Bool) (acc : List Int) : acc ++ (p.drop j).filter (lives b) = (if lives b (rd p (j : Int)) = true then acc ++ [rd p (j : Int)] else acc) ++ (p.drop (j + 1)).filter (lives b) := by
  rw [List.drop_eq_getElem_cons h, rd_get h, List.filter_cons]
  by_cases hl : lives b p[j] = true
  · rw [if_pos hl, if_pos hl]; simp
  · rw [if_neg hl, if_neg hl]
theorem spec_filt (m : List S97) (b : List Bool) (hb : b.length ≤ 8) (i : Nat) (hi : i < m.length) (hm : m.length ≤ 6) (hp : ∀ t, t < (rd_T97 m (i : Int)).f0.length → 0 ≤ rd (rd_T97 m (i : Int)).f0 (t : Int)) (hp3 : (rd_T97 m (i : Int)).f0.length ≤ 3) (R : List S97 × List Int) (C : Nat) (lost : List Int) (out : List S97) (hl : lost.length ≤ 6) (ho : out.length ≤ 6) :
    ∀ d j acc k, j + d = (rd_T97 m (i : Int)).f0.length → acc.length + d ≤ 3 →
      ((acc ++ ((rd_T97 m (i : Int)).f0.drop j).filter (lives b)).length = 0 → ∀ k', C < k' → spec_Remap.l0 k' m b (lost ++ [(i : Int)]) (out ++ [⟨(rd_T97 m (i : Int)).f0⟩]) (wrap64 ((i : Int) + 1)) = some R) →
      ((acc ++ ((rd_T97 m (i : Int)).f0.drop j).filter (lives b)).length ≠ 0 → ∀ k', C < k' → spec_Remap.l0 k' m b lost (out ++ [⟨fill b b.length 0 (acc ++ ((rd_T97 m (i : Int)).f0.drop j).filter (lives b))⟩]) (wrap64 ((i : Int) + 1)) = some R) →
      C + d + 40 < k → spec_Remap.l1 k m b lost out (i : Int) (j : Int) acc = some R := by
  intro d
  induction d with
  | zero =>
    intro j acc k hd ha h1 h2 hk
    obtain ⟨k, rfl⟩ : ∃ z, k = z + 1 := ⟨k - 1, by omega⟩
    simp only [spec_Remap.l1]
    rw [if_pos (by omega), if_pos (by omega), if_neg (by omega)]
    rw [List.drop_of_length_le (by omega)] at h1 h2
    simp only [List.filter_nil, List.append_nil] at h1 h2
    by_cases he : acc.length = 0
    · rw [if_pos (by omega), if_pos (by omega)]
      simp only [Option.bind_some, List.length_nil, List.nil_append]
      rw [if_pos (by omega), if_pos (by omega)]
      exact h1 he k (by omega)
    · rw [if_neg (by omega)]
      have := spec_fill m b hb R C b.length 0 acc k (i : Int) lost out (by omega) (by omega) ho (fun k' hk' => h2 he k' hk') (by omega)
      exact this
  | succ d ih =>
    intro j acc k hd ha h1 h2 hk
    obtain ⟨k, rfl⟩ : ∃ z, k = z + 1 := ⟨k - 1, by omega⟩
    have hj : j < (rd_T97 m (i : Int)).f0.length := by omega
    simp only [spec_Remap.l1]
    rw [if_pos (by omega), if_pos (by omega), if_pos (by omega), if_pos (by omega), lives_s b _ (hp j hj), wrap_of (x := (j : Int) + 1) (by omega) (by omega)]
    simp only [Option.bind_some]
    rw [drop_step hj] at h1 h2
    by_cases hv : lives b (rd (rd_T97 m (i : Int)).f0 (j : Int)) = true
    · rw [if_pos hv, if_pos (by omega)]
      rw [if_pos hv] at h1 h2
      have := ih (j + 1) _ k (by omega) (by simp; omega) h1 h2 (by omega)
      rw [show ((j + 1 : Nat) : Int) = (j : Int) + 1 from by omega] at this
      exact this
    · rw [if_neg hv]
      rw [if_neg hv] at h1 h2
      have := ih (j + 1) _ k (by omega) (by omega) h1 h2 (by omega)
      rw [show ((j + 1 : Nat) : Int) = (j : Int) + 1 from by omega] at this
      exact this
theorem impl_filt (m : List S97) (b : List Bool) (hb : b.length ≤ 8) (i : Nat) (p : List Int) (hp : ∀ t, t < p.length → 0 ≤ rd p (t : Int)) (hp3 : p.length ≤ 3) (R : List S97 × List Int) (C : Nat) (lost : List Int) (out : List S97) (n : Int) (hl : lost.length ≤ 6) (ho : out.length ≤ 6) :
    ∀ d j acc k, j + d = p.length → acc.length + d ≤ 3 →
      ((acc ++ (p.drop j).filter (lives b)).length = 0 → ∀ k', C < k' → impl_remap.l0 k' (out ++ [⟨p⟩]) (lost ++ [(i : Int)]) m n (wrap64 ((i : Int) + 1)) b = some R) →
      ((acc ++ (p.drop j).filter (lives b)).length ≠ 0 → ∀ k', C < k' → impl_remap.l0 k' (out ++ [⟨fill b b.length 0 (acc ++ (p.drop j).filter (lives b))⟩]) lost m n (wrap64 ((i : Int) + 1)) b = some R) →
      C + d + 40 < k → impl_remap.l1 k out lost (i : Int) m n (i : Int) p (p.length : Int) (j : Int) b p acc = some R := by
  intro d
  induction d with
  | zero =>
    intro j acc k hd ha h1 h2 hk
    obtain ⟨k, rfl⟩ : ∃ z, k = z + 1 := ⟨k - 1, by omega⟩
    simp only [impl_remap.l1, slices_Clone_int64_int64.f, impl_size_bool.f]
    rw [if_neg (by omega)]
    rw [List.drop_of_length_le (by omega)] at h1 h2
    simp only [List.filter_nil, List.append_nil] at h1 h2
    by_cases he : acc.length = 0
    · rw [if_pos (by omega), if_pos (by omega)]
      simp only [Option.bind_some, List.length_nil, List.nil_append]
      rw [if_pos (by omega)]
      simp only [Option.bind_some]
      rw [if_pos (by omega)]
      exact h1 he k (by omega)
    · rw [if_neg (by omega)]
      simp only [Option.bind_some]
      have := impl_fill m b hb R C b.length 0 acc k (i : Int) lost out n (by omega) (by omega) ho (fun k' hk' => h2 he k' hk') (by omega)
      exact this
  | succ d ih =>
    intro j acc k hd ha h1 h2 hk
    obtain ⟨k, rfl⟩ : ∃ z, k = z + 1 := ⟨k - 1, by omega⟩
    have hj : j < p.length := by omega
    simp only [impl_remap.l1]
    rw [if_pos (by omega), if_pos (by omega), if_pos (by omega), lives_i b _ (hp j hj), wrap_of (x := (j : Int) + 1) (by omega) (by omega)]
    simp only [Option.bind_some]
    rw [drop_step hj] at h1 h2
    by_cases hv : lives b (rd p (j : Int)) = true
    · rw [if_pos hv, if_pos (by omega)]
      rw [if_pos hv] at h1 h2
      have := ih (j + 1) _ k (by omega) (by simp; omega) h1 h2 (by omega)
      rw [show ((j + 1 : Nat) : Int) = (j : Int) + 1 from by omega] at this
      exact this
    · rw [if_neg hv]
      rw [if_neg hv] at h1 h2
      have := ih (j + 1) _ k (by omega) (by omega) h1 h2 (by omega)
      rw [show ((j + 1 : Nat) : Int) = (j : Int) + 1 from by omega] at this
      exact this
theorem spec_all (m : List S97) (b : List Bool) (hb : b.length ≤ 8) (hm : m.length ≤ 6) (hp : ∀ i, i < m.length → ∀ t, t < (rd_T97 m (i : Int)).f0.length → 0 ≤ rd (rd_T97 m (i : Int)).f0 (t : Int)) (hp3 : ∀ i, i < m.length → (rd_T97 m (i : Int)).f0.length ≤ 3) :
    ∀ d i lost out k, i + d = m.length → lost.length ≤ i → out.length ≤ i → 60 * d + 5 < k → spec_Remap.l0 k m b lost out (i : Int) = some (re m b d i lost out) := by
  intro d
  induction d with
  | zero =>
    intro i lost out k hd hl ho hk
    obtain ⟨k, rfl⟩ : ∃ z, k = z + 1 := ⟨k - 1, by omega⟩
    simp only [spec_Remap.l0]
    rw [if_neg (by omega)]
    rfl
  | succ d ih =>
    intro i lost out k hd hl ho hk
    obtain ⟨k, rfl⟩ : ∃ z, k = z + 1 := ⟨k - 1, by omega⟩
    have hi : i < m.length := by omega
    have h3 := hp3 i hi
    simp only [spec_Remap.l0]
    rw [if_pos (by omega)]
    have key := spec_filt m b hb i hi hm (hp i hi) h3 (re m b (d + 1) i lost out) (60 * d + 5) lost out (by omega) (by omega) (rd_T97 m (i : Int)).f0.length 0 [] k (by omega) (by simp; omega)
    simp only [List.drop_zero, List.nil_append] at key
    refine key (fun he k' hk' => ?_) (fun he k' hk' => ?_) (by omega)
    · rw [wrap_of (x := (i : Int) + 1) (by omega) (by omega)]
      have := ih (i + 1) (lost ++ [(i : Int)]) (out ++ [⟨(rd_T97 m (i : Int)).f0⟩]) k' (by omega) (by simp; omega) (by simp; omega) hk'
      rw [show ((i + 1 : Nat) : Int) = (i : Int) + 1 from by omega] at this
      rw [this]
      simp only [re]
      rw [if_pos he]
    · rw [wrap_of (x := (i : Int) + 1) (by omega) (by omega)]
      have := ih (i + 1) lost (out ++ [⟨fill b b.length 0 ((rd_T97 m (i : Int)).f0.filter (lives b))⟩]) k' (by omega) (by omega) (by simp; omega) hk'
      rw [show ((i + 1 : Nat) : Int) = (i : Int) + 1 from by omega] at this
      rw [this]
      simp only [re]
      rw [if_neg he]
theorem impl_all (m : List S97) (b : List Bool) (hb : b.length ≤ 8) (hm : m.length ≤ 6) (hp : ∀ i, i < m.length → ∀ t, t < (rd_T97 m (i : Int)).f0.length → 0 ≤ rd (rd_T97 m (i : Int)).f0 (t : Int)) (hp3 : ∀ i, i < m.length → (rd_T97 m (i : Int)).f0.length ≤ 3) :
    ∀ d i lost out k, i + d = m.length → lost.length ≤ i → out.length ≤ i → 60 * d + 5 < k → impl_remap.l0 k out lost m (m.length : Int) (i : Int) b = some (re m b d i lost out) := by
  intro d
  induction d with
  | zero =>
    intro i lost out k hd hl ho hk
    obtain ⟨k, rfl⟩ : ∃ z, k = z + 1 := ⟨k - 1, by omega⟩
    simp only [impl_remap.l0]
    rw [if_neg (by omega)]
    rfl
  | succ d ih =>
    intro i lost out k hd hl ho hk
    obtain ⟨k, rfl⟩ : ∃ z, k = z + 1 := ⟨k - 1, by omega⟩
    have hi : i < m.length := by omega
    have h3 := hp3 i hi
    simp only [impl_remap.l0]
    rw [if_pos (by omega), if_pos (by omega), if_pos (by omega)]
    have key := impl_filt m b hb i (rd_T97 m (i : Int)).f0 (hp i hi) h3 (re m b (d + 1) i lost out) (60 * d + 5) lost out (m.length : Int) (by omega) (by omega) (rd_T97 m (i : Int)).f0.length 0 [] k (by omega) (by simp; omega)
    simp only [List.drop_zero, List.nil_append] at key
    refine key (fun he k' hk' => ?_) (fun he k' hk' => ?_) (by omega)
    · rw [wrap_of (x := (i : Int) + 1) (by omega) (by omega)]
      have := ih (i + 1) (lost ++ [(i : Int)]) (out ++ [⟨(rd_T97 m (i : Int)).f0⟩]) k' (by omega) (by simp; omega) (by simp; omega) hk'
      rw [show ((i + 1 : Nat) : Int) = (i : Int) + 1 from by omega] at this
      rw [this]
      simp only [re]
      rw [if_pos he]
    · rw [wrap_of (x := (i : Int) + 1) (by omega) (by omega)]
      have := ih (i + 1) lost (out ++ [⟨fill b b.length 0 ((rd_T97 m (i : Int)).f0.filter (lives b))⟩]) k' (by omega) (by omega) (by simp; omega) hk'
      rw [show ((i + 1 : Nat) : Int) = (i : Int) + 1 from by omega] at this
      rw [this]
      simp only [re]
      rw [if_neg he]
theorem re_small (m : List S97) (b : List Bool) (hp3 : ∀ i, i < m.length → (rd_T97 m (i : Int)).f0.length ≤ 3) : ∀ d i lost out, i + d = m.length → lost.length ≤ i → out.length ≤ i → (∀ x ∈ out, x.f0.length ≤ 3) → (re m b d i lost out).1.length ≤ i + d ∧ (re m b d i lost out).2.length ≤ i + d ∧ ∀ x ∈ (re m b d i lost out).1, x.f0.length ≤ 3 := by
  intro d
  induction d with
  | zero => intro i lost out hd hl ho hx; exact ⟨by simpa [re] using ho, by simpa [re] using hl, by simpa [re] using hx⟩
  | succ d ih =>
    intro i lost out hd hl ho hx
    have h3 := hp3 i (by omega)
    simp only [re]
    split
    · have := ih (i + 1) (lost ++ [(i : Int)]) (out ++ [⟨(rd_T97 m (i : Int)).f0⟩]) (by omega) (by simp; omega) (by simp; omega) (fun x hx' => by
        rcases List.mem_append.1 hx' with h | h
        · exact hx x h
        · rw [List.mem_singleton.1 h]; exact h3)
      exact ⟨by omega, by omega, this.2.2⟩
    · have := ih (i + 1) lost (out ++ [⟨fill b b.length 0 ((rd_T97 m (i : Int)).f0.filter (lives b))⟩]) (by omega) (by omega) (by simp; omega) (fun x hx' => by
        rcases List.mem_append.1 hx' with h | h
        · exact hx x h
        · rw [List.mem_singleton.1 h]; exact fill_len b _ _ _ (Nat.le_trans (List.length_filter_le _ _) h3))
      exact ⟨by omega, by omega, this.2.2⟩
theorem okRest_nn (p : List Int) : ∀ d j, okRest p j d = true → ∀ t, j ≤ t → t < j + d → 0 ≤ rd p (t : Int)
  | 0, j, _, t, h1, h2 => by omega
  | d + 1, j, h, t, h1, h2 => by
    simp only [okRest, okAt, Bool.and_eq_true, decide_eq_true_eq] at h
    by_cases e : t = j
    · subst e; exact h.1.1.1
    · exact okRest_nn p d (j + 1) h.2 t (by omega) (by omega)
theorem okAll_at (l : List S97) : ∀ d j, okAll l j d = true → ∀ t, j ≤ t → t < j + d → okP (rd_T97 l (t : Int)) = true
  | 0, j, _, t, h1, h2 => by omega
  | d + 1, j, h, t, h1, h2 => by
    simp only [okAll, Bool.and_eq_true] at h
    by_cases e : t = j
    · subst e; exact h.1
    · exact okAll_at l d (j + 1) h.2 t (by omega) (by omega)
theorem remap_law (m : List S97) (b : List Bool) (K : Nat) (g : List S97 × List Int) (hs : spec_Remap.f K m b = some g) (hi : impl_Remap.f K m b = some g) (hg1 : g.1.length ≤ 6) (hg2 : g.2.length ≤ 6) (hg3 : ∀ x ∈ g.1, x.f0.length ≤ 3) (hm : m.length ≤ 1048576) (hb : ∀ x ∈ m, x.f0.length ≤ 1048576) (hB : b.length ≤ 1048576) (hK : 4194304 < K) (l : List S110) (hto : laws_toPlaceS.f K l = some m) (hsz : ∃ q, laws_szPlaceS.f K l 1048576 = some q ∧ 0 ≤ q) : laws_FnExactRemap.f K l b = some true := by
  obtain ⟨q, hq, hq0⟩ := hsz
  have ht : tot m ≤ 900000000000000 := by
    have := tot_le m 1048576 hb
    have h2 : ((1048576 : Nat) : Int) * (m.length : Int) ≤ 1048576 * 1048576 := Int.mul_le_mul_of_nonneg_left (by omega) (by omega)
    omega
  have ht0 := tot_nonneg m
  have htg : tot g.1 ≤ 18 := by
    have := tot_le g.1 3 hg3
    omega
  have htg0 := tot_nonneg g.1
  obtain ⟨z, mz, _⟩ := markPl_ok 1048576 (by omega) m hm hb ht 1 (by omega) (by omega) K (by omega)
  obtain ⟨zb, mb⟩ := markBools_loop b.length 0 b (1 + tot m) K (by omega) (by omega) (by omega) hB (by omega)
  obtain ⟨zg, mg, hgz⟩ := markPl_ok 3 (by omega) g.1 (by omega) hg3 (by omega) 1 (by omega) (by omega) K (by omega)
  obtain ⟨y, yl, my, hy⟩ := markInts_ok g.2 (1 + tot g.1) (by omega) (by omega) (by omega) K (by omega)
  have e0 := toBools_ok b hB K (by omega)
  have e1 := eqPlaces_ok g.1 (by omega) (fun x hx => by have := hg3 x hx; omega) K (by omega)
  have e2 := eqInts_ok g.2 (by unfold maxLen; omega) K (by omega)
  have e3 := eqPlaces_ok m hm hb K (by omega)
  have e4 := eqBools_ok b hB K (by omega)
  have e5 := hgz K (by omega)
  have e6 := hy K (by omega)
  have mb' : laws_markBoolS.f K b (1 + tot m) = some (1 + tot m + (b.length : Int), zb) := mb
  unfold laws_FnExactRemap.f
  rw [if_neg (by omega), hq]
  simp only [Option.bind_some]
  rw [if_neg (by omega)]
  simp only [hto, e0, hs, hi, e1, e2, e3, e4, mz, mb', mg, my, e5, e6, Option.bind_some, if_true]
  rw [if_neg (by omega)]
  try simp only [e5, e6, Option.bind_some]
  rw [if_neg (by omega), if_neg (by omega)]
theorem FnExactRemap : SFnExactRemap.Pure := by
  intro l l1 hl hm hl1 _
  have hm' : ∀ x ∈ l, x.f0.length ≤ maxLen := fun x hx => (hm x hx).1
  obtain ⟨K, hK⟩ : ∃ K, 9 * l.length + 9437184 < K := ⟨_, Nat.lt_succ_self _⟩
  refine ⟨K, ?_⟩
  by_cases hbig : (l1.length : Int) > 1048576
  · unfold laws_FnExactRemap.f
    rw [if_pos hbig]
  obtain ⟨r, e, hr⟩ := szPlaces l hl hm' K (by omega)
  by_cases h : r < 0
  · unfold laws_FnExactRemap.f
    rw [if_neg hbig, e]
    simp only [Option.bind_some]
    rw [if_pos h]
  · obtain ⟨h1, h2⟩ := hr (by omega)
    have h3 : (l.map conv).length ≤ 1048576 := by simpa using h1
    have h4 : ∀ x ∈ l.map conv, x.f0.length ≤ 1048576 := fun x hx => by
      obtain ⟨y, hy, rfl⟩ := List.mem_map.1 hx
      exact h2 y hy
    have hto := toPlaces_ok l h1 h2 K (by omega)
    have hS := spec_places (l.map conv) K (by omega)
    have hI := impl_places (l.map conv) h3 K (by simp; omega)
    generalize l.map conv = m at *
    have both : ∃ g : List S97 × List Int, spec_Remap.f K m l1 = some g ∧ impl_Remap.f K m l1 = some g ∧ g.1.length ≤ 6 ∧ g.2.length ≤ 6 ∧ ∀ x ∈ g.1, x.f0.length ≤ 3 := by
      obtain ⟨K, rfl⟩ : ∃ z, K = z + 1 := ⟨K - 1, by omega⟩
      simp only [spec_Remap.f, impl_Remap.f, hS, hI, Option.bind_some]
      by_cases ho : okPl m = true
      · by_cases h8 : (l1.length : Int) > 8
        · refine ⟨([], []), ?_, ?_, by simp, by simp, by simp⟩
          · simp only [ho, if_true, decide_eq_true h8, spec_Remap.j0]
          · simp only [ho, if_true]
            rw [if_pos h8]
        · have ho' := ho
          simp only [okPl, Bool.and_eq_true, decide_eq_true_eq] at ho'
          have hP := okAll_at m m.length 0 ho'.2
          have hp3 : ∀ i, i < m.length → (rd_T97 m (i : Int)).f0.length ≤ 3 := fun i hi => by
            have := hP i (by omega) (by omega)
            simp only [okP, Bool.and_eq_true, decide_eq_true_eq] at this
            exact this.1.2
          have hp : ∀ i, i < m.length → ∀ t, t < (rd_T97 m (i : Int)).f0.length → 0 ≤ rd (rd_T97 m (i : Int)).f0 (t : Int) := fun i hi t ht => by
            have := hP i (by omega) (by omega)
            simp only [okP, Bool.and_eq_true, decide_eq_true_eq] at this
            exact okRest_nn _ _ 0 this.2 t (by omega) (by omega)
          have s := spec_all m l1 (by omega) ho'.1.2 hp hp3 m.length 0 [] [] K (by omega) (by simp) (by simp) (by omega)
          have i2 := impl_all m l1 (by omega) ho'.1.2 hp hp3 m.length 0 [] [] (K + 1) (by omega) (by simp) (by simp) (by omega)
          have sm := re_small m l1 hp3 m.length 0 [] [] (by omega) (by simp) (by simp) (by simp)
          refine ⟨re m l1 m.length 0 [] [], ?_, ?_, by omega, by omega, sm.2.2⟩
          · simp only [ho, if_true, decide_eq_false h8, spec_Remap.j0]
            rw [if_neg (by simp)]
            exact s
          · simp only [ho, if_true]
            rw [if_neg h8]
            unfold impl_remap.f
            rw [show ((0 : Nat) : Int) = 0 from rfl] at i2
            rw [i2]
            rfl
      · refine ⟨([], []), ?_, ?_, by simp, by simp, by simp⟩
        · simp only [ho, spec_Remap.j0]
          simp
        · simp only [ho]
          simp
    obtain ⟨g, g1, g2, g3, g4, g5⟩ := both
    exact remap_law m l1 K g g1 g2 g3 g4 g5 h3 h4 (by omega) (by omega) l hto ⟨r, e, by omega⟩
end Go.Proofs.Ytodgacnioeoogaa.Pure
