/- Proved: the law FnPlaces answers true at every argument: the program answers as the reference, wherever the law's own guards let the argument in. Conditions: none beyond the given row's. -/
import Derived.Test.YtgdfbjmjgegicaaSFnPlaces
import Derived.Test.YtgdfbjmjgegicaaGenPs
namespace Go.Proofs.Ytgdfbjmjgegicaa.Pure
open Go.RowKit Go.Proofs.Ytgdfbjmjgegicaa.XPs Go.Proofs.Ytgdfbjmjgegicaa.Opened Go.Proofs.YtgdfbjmjgegicaaW.PrintWords Go.Proofs.YtgdfbjmjgegicaaW.PrintLast Go.Proofs.Ytgdfbjmjgegicaa.SFnPlaces Go.Proofs.Ytgdfbjmjgegicaa.Gen
set_option linter.unusedSimpArgs false
set_option linter.unusedVariables false
open Go.Proofs.Ytgdfbjmjgegicaa.Aid
theorem in_ (a b c : Int) : spec_l1In.f a b c = some (decide (b ≤ a ∧ a ≤ c)) := by
  unfold spec_l1In.f
  by_cases h : a ≥ b <;> simp [h]
theorem within_ (a b c : Int) : impl_within.f a b c = some (decide (b ≤ a ∧ a ≤ c)) := by
  unfold impl_within.f
  by_cases h : a ≥ b <;> simp [h]
theorem has_from (l : List Int) (n : Int) (hl : l.length ≤ maxLen) : ∀ d i k, i + d = l.length → d < k → spec_l3Has.l0 k l n (i : Int) = some (decide (n ∈ l.drop i)) := by
  unfold maxLen at hl
  intro d
  induction d with
  | zero =>
    intro i k hd hk
    obtain ⟨k, rfl⟩ : ∃ m, k = m + 1 := ⟨k - 1, by omega⟩
    simp only [spec_l3Has.l0]
    rw [if_neg (by omega), List.drop_of_length_le (by omega)]
    simp
  | succ d ih =>
    intro i k hd hk
    obtain ⟨k, rfl⟩ : ∃ m, k = m + 1 := ⟨k - 1, by omega⟩
    simp only [spec_l3Has.l0]
    rw [if_pos (by omega), if_pos (by omega), rd_get (show i < l.length by omega), wrap_of (by omega) (by omega), List.drop_eq_getElem_cons (show i < l.length by omega)]
    by_cases h : l[i] = n
    · rw [if_pos h, decide_eq_true (show n ∈ l[i] :: l.drop (i + 1) by rw [h]; exact List.mem_cons_self)]
    · rw [if_neg h]
      have := ih (i + 1) k (by omega) (by omega)
      rw [show ((i + 1 : Nat) : Int) = (i : Int) + 1 from by omega] at this
      rw [this]
      have h' : ¬ n = l[i] := fun e => h e.symm
      simp only [List.mem_cons, h', false_or]
theorem has_ok (l : List Int) (n : Int) (hl : l.length ≤ maxLen) (k : Nat) (hk : l.length < k) : spec_l3Has.f k l n = some (decide (n ∈ l)) := by
  have := has_from l n hl l.length 0 k (by omega) hk
  simpa [spec_l3Has.f] using this
theorem index_from (l : List Int) (n : Int) (hl : l.length ≤ maxLen) : ∀ d i k, i + d = l.length → d < k → ∃ r, slices_Index_int64_int64.l0 k l n (l.length : Int) (i : Int) = some r ∧ (0 ≤ r ↔ n ∈ l.drop i) := by
  unfold maxLen at hl
  intro d
  induction d with
  | zero =>
    intro i k hd hk
    obtain ⟨k, rfl⟩ : ∃ m, k = m + 1 := ⟨k - 1, by omega⟩
    simp only [slices_Index_int64_int64.l0]
    rw [if_neg (by omega), List.drop_of_length_le (by omega)]
    exact ⟨-1, rfl, by simp⟩
  | succ d ih =>
    intro i k hd hk
    obtain ⟨k, rfl⟩ : ∃ m, k = m + 1 := ⟨k - 1, by omega⟩
    simp only [slices_Index_int64_int64.l0]
    rw [if_pos (by omega), if_pos (by omega), if_pos (by omega), rd_get (show i < l.length by omega), wrap_of (by omega) (by omega), List.drop_eq_getElem_cons (show i < l.length by omega)]
    by_cases h : n = l[i]
    · rw [if_pos h]
      exact ⟨i, rfl, ⟨fun _ => by rw [h]; exact List.mem_cons_self, fun _ => by omega⟩⟩
    · rw [if_neg h]
      have := ih (i + 1) k (by omega) (by omega)
      rw [show ((i + 1 : Nat) : Int) = (i : Int) + 1 from by omega] at this
      obtain ⟨r, e, hr⟩ := this
      exact ⟨r, e, by simp only [hr, List.mem_cons, h, false_or]⟩
theorem contains_ok (l : List Int) (n : Int) (hl : l.length ≤ maxLen) (k : Nat) (hk : l.length < k) : slices_Contains_int64_int64.f k l n = some (decide (n ∈ l)) := by
  obtain ⟨r, e, hr⟩ := index_from l n hl l.length 0 k (by omega) hk
  simp only [slices_Contains_int64_int64.f, slices_Index_int64_int64.f]
  rw [show ((0 : Nat) : Int) = 0 from rfl] at e
  rw [e]
  simp only [List.drop_zero] at hr
  simp [hr]
theorem rdP_get {l : List S84} {i : Nat} (h : i < l.length) : rd_T84 l (i : Int) = l[i] := by
  unfold rd_T84
  rw [Int.toNat_natCast, List.getD_eq_getElem?_getD, List.getElem?_eq_getElem h]
  rfl
/-- Machine j of a place is one, and none ahead of it. -/
def okAt (m : List Int) (j : Nat) : Bool := decide (0 ≤ rd m j ∧ rd m j ≤ 7) && !decide (rd m j ∈ m.take j)
def okRest (m : List Int) : Nat → Nat → Bool
  | _, 0 => true
  | j, d + 1 => okAt m j && okRest m (j + 1) d
def okP (p : S84) : Bool := decide (1 ≤ p.f0.length ∧ p.f0.length ≤ 3) && okRest p.f0 0 p.f0.length
def okAll (l : List S84) : Nat → Nat → Bool
  | _, 0 => true
  | i, d + 1 => okP (rd_T84 l i) && okAll l (i + 1) d
/-- Places are right. -/
def okPl (l : List S84) : Bool := decide (1 ≤ l.length ∧ l.length ≤ 6) && okAll l 0 l.length
theorem spec_in (x0 : List S84) (x3 : Int) (m : List Int) (hm : m.length ≤ 3) : ∀ d j k, j + d = m.length → d + 5 < k → spec_PlacesOk.l1 k x0 x3 m (j : Int) = if okRest m j d = true then spec_PlacesOk.l0 (k - d - 1) x0 (wrap64 (x3 + 1)) else some false := by
  intro d
  induction d with
  | zero =>
    intro j k hd hk
    obtain ⟨k, rfl⟩ : ∃ q, k = q + 1 := ⟨k - 1, by omega⟩
    simp only [spec_PlacesOk.l1]
    rw [if_neg (by omega)]
    simp [okRest]
  | succ d ih =>
    intro j k hd hk
    obtain ⟨k, rfl⟩ : ∃ q, k = q + 1 := ⟨k - 1, by omega⟩
    simp only [spec_PlacesOk.l1, spec_l1Machine.f, in_, Option.bind_some]
    rw [if_pos (by omega), if_pos (by omega), if_pos (show (j : Int) ≤ (m.length : Int) by omega), Int.toNat_natCast, has_ok _ _ (by simp [maxLen]; omega) k (by simp; omega), wrap_of (by omega) (by omega)]
    have e := ih (j + 1) k (by omega) (by omega)
    rw [show ((j + 1 : Nat) : Int) = (j : Int) + 1 from by omega] at e
    rw [e]
    simp only [okRest, okAt, Option.bind_some]
    by_cases h1 : 0 ≤ rd m j ∧ rd m j ≤ 7 <;> by_cases h2 : rd m j ∈ m.take j <;> simp [h1, h2, show k - d - 1 = k + 1 - (d + 1) - 1 from by omega]
theorem spec_out (l : List S84) (hl : l.length ≤ 6) : ∀ d i k, i + d = l.length → 8 * d + 8 < k → spec_PlacesOk.l0 k l (i : Int) = some (okAll l i d) := by
  intro d
  induction d with
  | zero =>
    intro i k hd hk
    obtain ⟨k, rfl⟩ : ∃ q, k = q + 1 := ⟨k - 1, by omega⟩
    simp only [spec_PlacesOk.l0]
    rw [if_neg (by omega)]
    simp [okAll]
  | succ d ih =>
    intro i k hd hk
    obtain ⟨k, rfl⟩ : ∃ q, k = q + 1 + 1 := ⟨k - 2, by omega⟩
    simp only [spec_PlacesOk.l0]
    rw [if_pos (by omega), if_pos (by omega)]
    simp only [okAll, okP]
    by_cases h1 : ((rd_T84 l i).f0.length : Int) < 1
    · have h2 : ¬ (1 ≤ (rd_T84 l i).f0.length ∧ (rd_T84 l i).f0.length ≤ 3) := by omega
      rw [if_pos h1]
      simp [spec_PlacesOk.j2, h2]
    · rw [if_neg h1]
      by_cases h3 : (rd_T84 l i).f0.length ≤ 3
      · have h2 : (1 ≤ (rd_T84 l i).f0.length ∧ (rd_T84 l i).f0.length ≤ 3) := by omega
        simp only [spec_PlacesOk.j2]
        rw [if_neg (by simp; omega)]
        have e := spec_in l (i : Int) (rd_T84 l i).f0 h3 (rd_T84 l i).f0.length 0 k (by omega) (by omega)
        rw [show ((0 : Nat) : Int) = 0 from rfl] at e
        rw [e, wrap_of (by omega) (by omega)]
        have e2 := ih (i + 1) (k - (rd_T84 l i).f0.length - 1) (by omega) (by omega)
        rw [show ((i + 1 : Nat) : Int) = (i : Int) + 1 from by omega] at e2
        rw [e2]
        by_cases h4 : okRest (rd_T84 l i).f0 0 (rd_T84 l i).f0.length = true <;> simp [h2, h4]
      · have h2 : ¬ (1 ≤ (rd_T84 l i).f0.length ∧ (rd_T84 l i).f0.length ≤ 3) := by omega
        simp only [spec_PlacesOk.j2]
        rw [if_pos (by simp; omega)]
        simp [h2]
theorem spec_places (l : List S84) (k : Nat) (hk : 100 < k) : spec_PlacesOk.f k l = some (okPl l) := by
  obtain ⟨k, rfl⟩ : ∃ q, k = q + 1 := ⟨k - 1, by omega⟩
  simp only [spec_PlacesOk.f, spec_PlacesOk.j0, okPl]
  by_cases h1 : (l.length : Int) < 1
  · have h2 : ¬ (1 ≤ l.length ∧ l.length ≤ 6) := by omega
    rw [if_pos h1]
    simp [h2]
  · rw [if_neg h1]
    by_cases h3 : l.length ≤ 6
    · have h2 : (1 ≤ l.length ∧ l.length ≤ 6) := by omega
      rw [if_neg (by simp; omega)]
      have e := spec_out l h3 l.length 0 k (by omega) (by omega)
      rw [show ((0 : Nat) : Int) = 0 from rfl] at e
      rw [e]
      simp [h2]
    · have h2 : ¬ (1 ≤ l.length ∧ l.length ≤ 6) := by omega
      rw [if_pos (by simp; omega)]
      simp [h2]
theorem impl_in (x0 x7 : List S84) (x8 x9 : Int) (m : List Int) (hm : m.length ≤ 3) : ∀ d j k, j + d = m.length → d + 5 < k → impl_arePlaces.l1 k x0 x7 x8 x9 m (m.length : Int) (j : Int) m = if okRest m j d = true then impl_arePlaces.l0 (k - d - 1) x0 x7 x8 (wrap64 (x9 + 1)) else some false := by
  intro d
  induction d with
  | zero =>
    intro j k hd hk
    obtain ⟨k, rfl⟩ : ∃ q, k = q + 1 := ⟨k - 1, by omega⟩
    simp only [impl_arePlaces.l1]
    rw [if_neg (by omega)]
    simp [okRest]
  | succ d ih =>
    intro j k hd hk
    obtain ⟨k, rfl⟩ : ∃ q, k = q + 1 := ⟨k - 1, by omega⟩
    simp only [impl_arePlaces.l1, impl_isMachine.f, within_, Option.bind_some]
    rw [if_pos (by omega), if_pos (by omega), if_pos (by omega), if_pos (show (j : Int) ≤ (m.length : Int) by omega), Int.toNat_natCast, contains_ok _ _ (by simp [maxLen]; omega) k (by simp; omega), wrap_of (by omega) (by omega)]
    have e := ih (j + 1) k (by omega) (by omega)
    rw [show ((j + 1 : Nat) : Int) = (j : Int) + 1 from by omega] at e
    rw [e]
    simp only [okRest, okAt, Option.bind_some]
    by_cases h1 : 0 ≤ rd m j ∧ rd m j ≤ 7 <;> by_cases h2 : rd m j ∈ m.take j <;> simp [h1, h2, show k - d - 1 = k + 1 - (d + 1) - 1 from by omega]
theorem impl_out (l : List S84) (hl : l.length ≤ 1048576) : ∀ d i k, i + d = l.length → 8 * d + 8 < k → impl_arePlaces.l0 k l l (l.length : Int) (i : Int) = some (okAll l i d && decide (1 ≤ l.length ∧ l.length ≤ 6)) := by
  intro d
  induction d with
  | zero =>
    intro i k hd hk
    obtain ⟨k, rfl⟩ : ∃ q, k = q + 1 := ⟨k - 1, by omega⟩
    simp only [impl_arePlaces.l0, impl_Place.f, within_, Option.bind_some]
    rw [if_neg (by omega)]
    by_cases h : 1 ≤ l.length ∧ l.length ≤ 6
    · have h' : 1 ≤ (l.length : Int) ∧ (l.length : Int) ≤ 6 := by omega
      simp [okAll, h, h']
    · have h' : ¬ (1 ≤ (l.length : Int) ∧ (l.length : Int) ≤ 6) := by omega
      simp only [okAll, h, h']
      simp
  | succ d ih =>
    intro i k hd hk
    obtain ⟨k, rfl⟩ : ∃ q, k = q + 1 := ⟨k - 1, by omega⟩
    simp only [impl_arePlaces.l0, impl_size_int64.f, within_, Option.bind_some]
    rw [if_pos (by omega), if_pos (by omega), if_pos (by omega)]
    simp only [okAll, okP]
    by_cases h2 : 1 ≤ (rd_T84 l i).f0.length ∧ (rd_T84 l i).f0.length ≤ 3
    · have h' : 1 ≤ ((rd_T84 l i).f0.length : Int) ∧ ((rd_T84 l i).f0.length : Int) ≤ 3 := by omega
      rw [if_pos (by simpa using h')]
      have e := impl_in l l (l.length : Int) (i : Int) (rd_T84 l i).f0 h2.2 (rd_T84 l i).f0.length 0 k (by omega) (by omega)
      rw [show ((0 : Nat) : Int) = 0 from rfl] at e
      rw [e, wrap_of (by omega) (by omega)]
      have e2 := ih (i + 1) (k - (rd_T84 l i).f0.length - 1) (by omega) (by omega)
      rw [show ((i + 1 : Nat) : Int) = (i : Int) + 1 from by omega] at e2
      rw [e2]
      by_cases h4 : okRest (rd_T84 l i).f0 0 (rd_T84 l i).f0.length = true <;> simp [h2, h4]
    · have h' : ¬ (1 ≤ ((rd_T84 l i).f0.length : Int) ∧ ((rd_T84 l i).f0.length : Int) ≤ 3) := by omega
      rw [if_neg (by simpa using h')]
      simp [h2]
theorem impl_places (l : List S84) (hl : l.length ≤ 1048576) (k : Nat) (hk : 8 * l.length + 8 < k) : impl_arePlaces.f k l = some (okPl l) := by
  have e := impl_out l hl l.length 0 k (by omega) hk
  rw [show ((0 : Nat) : Int) = 0 from rfl] at e
  simp only [impl_arePlaces.f]
  rw [e, okPl, Bool.and_comm]
def lives (b : List Bool) (v : Int) : Bool := if v < (b.length : Int) then rdOf false b v else false
theorem lives_s (b : List Bool) (v : Int) (h : 0 ≤ v) : spec_l5Lives.f b v = some (lives b v) := by
  unfold spec_l5Lives.f lives
  by_cases hv : v < (b.length : Int) <;> simp [hv, h]
theorem lives_i (b : List Bool) (v : Int) (h : 0 ≤ v) : impl_remap_1.f v b = some (lives b v) := by
  unfold impl_remap_1.f lives
  by_cases hv : v < (b.length : Int) <;> simp [hv, h]
def fill (b : List Bool) : Nat → Nat → List Int → List Int
  | 0, _, nx => nx
  | d + 1, q, nx => fill b d (q + 1) (if rdOf false b (q : Int) = true ∧ nx.length < 3 ∧ ¬ (q : Int) ∈ nx then nx ++ [(q : Int)] else nx)
theorem fill_full (b : List Bool) : ∀ d q nx, 3 ≤ nx.length → fill b d q nx = nx
  | 0, _, _, _ => rfl
  | d + 1, q, nx, h => by
    simp only [fill]
    rw [if_neg (by omega)]
    exact fill_full b d (q + 1) nx h
theorem fill_len (b : List Bool) : ∀ d q nx, nx.length ≤ 3 → (fill b d q nx).length ≤ 3
  | 0, _, _, h => h
  | d + 1, q, nx, h => by
    simp only [fill]
    split
    · rename_i hc
      exact fill_len b d (q + 1) _ (by simp; omega)
    · exact fill_len b d (q + 1) _ h
/-- What both come to. -/
def re (m : List S84) (b : List Bool) : Nat → Nat → List Int → List S84 → List S84 × List Int
  | 0, _, lost, out => (out, lost)
  | d + 1, i, lost, out => if ((rd_T84 m (i : Int)).f0.filter (lives b)).length = 0 then re m b d (i + 1) (lost ++ [(i : Int)]) (out ++ [⟨(rd_T84 m (i : Int)).f0⟩]) else re m b d (i + 1) lost (out ++ [⟨fill b b.length 0 ((rd_T84 m (i : Int)).f0.filter (lives b))⟩])
theorem spec_fill (m : List S84) (b : List Bool) (hb : b.length ≤ 8) (R : List S84 × List Int) (C : Nat) : ∀ d q nx k i lost (out : List S84), q + d = b.length → nx.length ≤ 3 → out.length ≤ 6 → (∀ k', C < k' → spec_Remap.l0 k' m b lost (out ++ [⟨fill b d q nx⟩]) (wrap64 (i + 1)) = some R) → C + 2 * d + 12 < k → spec_Remap.l2 k m b lost out i (q : Int) nx = some R := by
  intro d
  induction d with
  | zero =>
    intro q nx k i lost out hd hn ho hc hk
    obtain ⟨k, rfl⟩ : ∃ z, k = z + 1 + 1 := ⟨k - 2, by omega⟩
    simp only [spec_Remap.l2, spec_Remap.j4]
    rw [if_neg (by omega), if_neg (by simp), if_pos (by omega)]
    exact hc k (by omega)
  | succ d ih =>
    intro q nx k i lost out hd hn ho hc hk
    obtain ⟨k, rfl⟩ : ∃ z, k = z + 1 + 1 := ⟨k - 2, by omega⟩
    simp only [spec_Remap.l2]
    rw [if_pos (by omega)]
    by_cases hf : nx.length < 3
    · rw [decide_eq_true (show (nx.length : Int) < 3 by omega)]
      simp only [spec_Remap.j4]
      rw [if_pos trivial, if_pos (by omega), if_pos (by omega), wrap_of (x := (q : Int) + 1) (by omega) (by omega)]
      have hc' : ∀ nx', (if rdOf false b (q : Int) = true ∧ nx.length < 3 ∧ ¬ (q : Int) ∈ nx then nx ++ [(q : Int)] else nx) = nx' → nx'.length ≤ 3 → spec_Remap.l2 k m b lost out i ((q : Int) + 1) nx' = some R := by
        intro nx' e hl
        have := ih (q + 1) nx' k i lost out (by omega) hl ho (fun k' hk' => by
          have h2 := hc k' hk'
          simp only [fill] at h2
          rw [e] at h2
          exact h2) (by omega)
        rw [show ((q + 1 : Nat) : Int) = (q : Int) + 1 from by omega] at this
        exact this
      by_cases hr : rdOf false b (q : Int) = true
      · rw [if_pos hr, has_ok _ _ (by unfold maxLen; omega) k (by omega)]
        simp only [Option.bind_some]
        by_cases hm : (q : Int) ∈ nx
        · rw [if_pos (by simpa using hm)]
          exact hc' nx (if_neg (by simp [hm])) hn
        · rw [if_neg (by simpa using hm), if_pos (by omega)]
          exact hc' _ (if_pos ⟨hr, hf, hm⟩) (by simp; omega)
      · rw [if_neg hr]
        exact hc' nx (if_neg (by simp [hr])) hn
    · rw [decide_eq_false (show ¬ (nx.length : Int) < 3 by omega)]
      simp only [spec_Remap.j4]
      rw [if_neg (by simp), if_pos (by omega)]
      have h2 := hc k (by omega)
      rw [fill_full b _ _ _ (by omega)] at h2
      exact h2
theorem impl_fill (m : List S84) (b : List Bool) (hb : b.length ≤ 8) (R : List S84 × List Int) (C : Nat) : ∀ d q nx k i lost (out : List S84) n, q + d = b.length → nx.length ≤ 3 → out.length ≤ 6 → (∀ k', C < k' → impl_remap.l0 k' (out ++ [⟨fill b d q nx⟩]) lost m n (wrap64 (i + 1)) b = some R) → C + d + 12 < k → impl_remap.l2 k out lost m n i (b.length : Int) (q : Int) b nx = some R := by
  intro d
  induction d with
  | zero =>
    intro q nx k i lost out n hd hn ho hc hk
    obtain ⟨k, rfl⟩ : ∃ z, k = z + 1 := ⟨k - 1, by omega⟩
    simp only [impl_remap.l2]
    rw [if_neg (by omega), if_pos (by omega)]
    exact hc k (by omega)
  | succ d ih =>
    intro q nx k i lost out n hd hn ho hc hk
    obtain ⟨k, rfl⟩ : ∃ z, k = z + 1 := ⟨k - 1, by omega⟩
    simp only [impl_remap.l2]
    rw [if_pos (by omega), if_pos (by omega), if_pos (by omega), wrap_of (x := (q : Int) + 1) (by omega) (by omega)]
    have hc' : ∀ nx', (if rdOf false b (q : Int) = true ∧ nx.length < 3 ∧ ¬ (q : Int) ∈ nx then nx ++ [(q : Int)] else nx) = nx' → nx'.length ≤ 3 → impl_remap.l2 k out lost m n i (b.length : Int) ((q : Int) + 1) b nx' = some R := by
      intro nx' e hl
      have := ih (q + 1) nx' k i lost out n (by omega) hl ho (fun k' hk' => by
        have h2 := hc k' hk'
        simp only [fill] at h2
        rw [e] at h2
        exact h2) (by omega)
      rw [show ((q + 1 : Nat) : Int) = (q : Int) + 1 from by omega] at this
      exact this
    by_cases hr : rdOf false b (q : Int) = true
    · rw [if_pos hr]
      by_cases hf : nx.length < 3
      · rw [if_pos (by omega), contains_ok _ _ (by unfold maxLen; omega) k (by omega)]
        simp only [Option.bind_some]
        by_cases hm : (q : Int) ∈ nx
        · rw [if_pos (by simpa using hm)]
          exact hc' nx (if_neg (by simp [hm])) hn
        · rw [if_neg (by simpa using hm), if_pos (by omega)]
          exact hc' _ (if_pos ⟨hr, hf, hm⟩) (by simp; omega)
      · rw [if_neg (by omega)]
        exact hc' nx (if_neg (by omega)) hn
    · rw [if_neg hr]
      exact hc' nx (if_neg (by simp [hr])) hn
theorem drop_step {p : List Int} {j : Nat} (h : j < p.length) (b : List Bool) (acc : List Int) : acc ++ (p.drop j).filter (lives b) = (if lives b (rd p (j : Int)) = true then acc ++ [rd p (j : Int)] else acc) ++ (p.drop (j + 1)).filter (lives b) := by
  rw [List.drop_eq_getElem_cons h, rd_get h, List.filter_cons]
  by_cases hl : lives b p[j] = true
  · rw [if_pos hl, if_pos hl]; simp
  · rw [if_neg hl, if_neg hl]
theorem spec_filt (m : List S84) (b : List Bool) (hb : b.length ≤ 8) (i : Nat) (hi : i < m.length) (hm : m.length ≤ 6) (hp : ∀ t, t < (rd_T84 m (i : Int)).f0.length → 0 ≤ rd (rd_T84 m (i : Int)).f0 (t : Int)) (hp3 : (rd_T84 m (i : Int)).f0.length ≤ 3) (R : List S84 × List Int) (C : Nat) (lost : List Int) (out : List S84) (hl : lost.length ≤ 6) (ho : out.length ≤ 6) :
    ∀ d j acc k, j + d = (rd_T84 m (i : Int)).f0.length → acc.length + d ≤ 3 →
      ((acc ++ ((rd_T84 m (i : Int)).f0.drop j).filter (lives b)).length = 0 → ∀ k', C < k' → spec_Remap.l0 k' m b (lost ++ [(i : Int)]) (out ++ [⟨(rd_T84 m (i : Int)).f0⟩]) (wrap64 ((i : Int) + 1)) = some R) →
      ((acc ++ ((rd_T84 m (i : Int)).f0.drop j).filter (lives b)).length ≠ 0 → ∀ k', C < k' → spec_Remap.l0 k' m b lost (out ++ [⟨fill b b.length 0 (acc ++ ((rd_T84 m (i : Int)).f0.drop j).filter (lives b))⟩]) (wrap64 ((i : Int) + 1)) = some R) →
      C + d + 40 < k → spec_Remap.l1 k m b lost out (i : Int) (j : Int) acc = some R := by
  intro d
  induction d with
  | zero =>
    intro j acc k hd ha h1 h2 hk
    obtain ⟨k, rfl⟩ : ∃ z, k = z + 1 := ⟨k - 1, by omega⟩
    simp only [spec_Remap.l1]
    rw [if_pos (by omega), if_pos (by omega), if_neg (by omega)]
    rw [List.drop_of_length_le (by omega)] at h1 h2
    simp only [List.filter_nil, List.append_nil] at h1 h2
    by_cases he : acc.length = 0
    · rw [if_pos (by omega), if_pos (by omega)]
      simp only [Option.bind_some, List.length_nil, List.nil_append]
      rw [if_pos (by omega), if_pos (by omega)]
      exact h1 he k (by omega)
    · rw [if_neg (by omega)]
      have := spec_fill m b hb R C b.length 0 acc k (i : Int) lost out (by omega) (by omega) ho (fun k' hk' => h2 he k' hk') (by omega)
      exact this
  | succ d ih =>
    intro j acc k hd ha h1 h2 hk
    obtain ⟨k, rfl⟩ : ∃ z, k = z + 1 := ⟨k - 1, by omega⟩
    have hj : j < (rd_T84 m (i : Int)).f0.length := by omega
    simp only [spec_Remap.l1]
    rw [if_pos (by omega), if_pos (by omega), if_pos (by omega), if_pos (by omega), lives_s b _ (hp j hj), wrap_of (x := (j : Int) + 1) (by omega) (by omega)]
    simp only [Option.bind_some]
    rw [drop_step hj] at h1 h2
    by_cases hv : lives b (rd (rd_T84 m (i : Int)).f0 (j : Int)) = true
    · rw [if_pos hv, if_pos (by omega)]
      rw [if_pos hv] at h1 h2
      have := ih (j + 1) _ k (by omega) (by simp; omega) h1 h2 (by omega)
      rw [show ((j + 1 : Nat) : Int) = (j : Int) + 1 from by omega] at this
      exact this
    · rw [if_neg hv]
      rw [if_neg hv] at h1 h2
      have := ih (j + 1) _ k (by omega) (by omega) h1 h2 (by omega)
      rw [show ((j + 1 : Nat) : Int) = (j : Int) + 1 from by omega] at this
      exact this
theorem impl_filt (m : List S84) (b : List Bool) (hb : b.length ≤ 8) (i : Nat) (p : List Int) (hp : ∀ t, t < p.length → 0 ≤ rd p (t : Int)) (hp3 : p.length ≤ 3) (R : List S84 × List Int) (C : Nat) (lost : List Int) (out : List S84) (n : Int) (hl : lost.length ≤ 6) (ho : out.length ≤ 6) :
    ∀ d j acc k, j + d = p.length → acc.length + d ≤ 3 →
      ((acc ++ (p.drop j).filter (lives b)).length = 0 → ∀ k', C < k' → impl_remap.l0 k' (out ++ [⟨p⟩]) (lost ++ [(i : Int)]) m n (wrap64 ((i : Int) + 1)) b = some R) →
      ((acc ++ (p.drop j).filter (lives b)).length ≠ 0 → ∀ k', C < k' → impl_remap.l0 k' (out ++ [⟨fill b b.length 0 (acc ++ (p.drop j).filter (lives b))⟩]) lost m n (wrap64 ((i : Int) + 1)) b = some R) →
      C + d + 40 < k → impl_remap.l1 k out lost (i : Int) m n (i : Int) p (p.length : Int) (j : Int) b p acc = some R := by
  intro d
  induction d with
  | zero =>
    intro j acc k hd ha h1 h2 hk
    obtain ⟨k, rfl⟩ : ∃ z, k = z + 1 := ⟨k - 1, by omega⟩
    simp only [impl_remap.l1, slices_Clone_int64_int64.f, impl_size_bool.f]
    rw [if_neg (by omega)]
    rw [List.drop_of_length_le (by omega)] at h1 h2
    simp only [List.filter_nil, List.append_nil] at h1 h2
    by_cases he : acc.length = 0
    · rw [if_pos (by omega), if_pos (by omega)]
      simp only [Option.bind_some, List.length_nil, List.nil_append]
      rw [if_pos (by omega)]
      simp only [Option.bind_some]
      rw [if_pos (by omega)]
      exact h1 he k (by omega)
    · rw [if_neg (by omega)]
      simp only [Option.bind_some]
      have := impl_fill m b hb R C b.length 0 acc k (i : Int) lost out n (by omega) (by omega) ho (fun k' hk' => h2 he k' hk') (by omega)
      exact this
  | succ d ih =>
    intro j acc k hd ha h1 h2 hk
    obtain ⟨k, rfl⟩ : ∃ z, k = z + 1 := ⟨k - 1, by omega⟩
    have hj : j < p.length := by omega
    simp only [impl_remap.l1]
    rw [if_pos (by omega), if_pos (by omega), if_pos (by omega), lives_i b _ (hp j hj), wrap_of (x := (j : Int) + 1) (by omega) (by omega)]
    simp only [Option.bind_some]
    rw [drop_step hj] at h1 h2
    by_cases hv : lives b (rd p (j : Int)) = true
    · rw [if_pos hv, if_pos (by omega)]
      rw [if_pos hv] at h1 h2
      have := ih (j + 1) _ k (by omega) (by simp; omega) h1 h2 (by omega)
      rw [show ((j + 1 : Nat) : Int) = (j : Int) + 1 from by omega] at this
      exact this
    · rw [if_neg hv]
      rw [if_neg hv] at h1 h2
      have := ih (j + 1) _ k (by omega) (by omega) h1 h2 (by omega)
      rw [show ((j + 1 : Nat) : Int) = (j : Int) + 1 from by omega] at this
      exact this
theorem spec_all (m : List S84) (b : List Bool) (hb : b.length ≤ 8) (hm : m.length ≤ 6) (hp : ∀ i, i < m.length → ∀ t, t < (rd_T84 m (i : Int)).f0.length → 0 ≤ rd (rd_T84 m (i : Int)).f0 (t : Int)) (hp3 : ∀ i, i < m.length → (rd_T84 m (i : Int)).f0.length ≤ 3) :
    ∀ d i lost out k, i + d = m.length → lost.length ≤ i → out.length ≤ i → 60 * d + 5 < k → spec_Remap.l0 k m b lost out (i : Int) = some (re m b d i lost out) := by
  intro d
  induction d with
  | zero =>
    intro i lost out k hd hl ho hk
    obtain ⟨k, rfl⟩ : ∃ z, k = z + 1 := ⟨k - 1, by omega⟩
    simp only [spec_Remap.l0]
    rw [if_neg (by omega)]
    rfl
  | succ d ih =>
    intro i lost out k hd hl ho hk
    obtain ⟨k, rfl⟩ : ∃ z, k = z + 1 := ⟨k - 1, by omega⟩
    have hi : i < m.length := by omega
    have h3 := hp3 i hi
    simp only [spec_Remap.l0]
    rw [if_pos (by omega)]
    have key := spec_filt m b hb i hi hm (hp i hi) h3 (re m b (d + 1) i lost out) (60 * d + 5) lost out (by omega) (by omega) (rd_T84 m (i : Int)).f0.length 0 [] k (by omega) (by simp; omega)
    simp only [List.drop_zero, List.nil_append] at key
    refine key (fun he k' hk' => ?_) (fun he k' hk' => ?_) (by omega)
    · rw [wrap_of (x := (i : Int) + 1) (by omega) (by omega)]
      have := ih (i + 1) (lost ++ [(i : Int)]) (out ++ [⟨(rd_T84 m (i : Int)).f0⟩]) k' (by omega) (by simp; omega) (by simp; omega) hk'
      rw [show ((i + 1 : Nat) : Int) = (i : Int) + 1 from by omega] at this
      rw [this]
      simp only [re]
      rw [if_pos he]
    · rw [wrap_of (x := (i : Int) + 1) (by omega) (by omega)]
      have := ih (i + 1) lost (out ++ [⟨fill b b.length 0 ((rd_T84 m (i : Int)).f0.filter (lives b))⟩]) k' (by omega) (by omega) (by simp; omega) hk'
      rw [show ((i + 1 : Nat) : Int) = (i : Int) + 1 from by omega] at this
      rw [this]
      simp only [re]
      rw [if_neg he]
theorem impl_all (m : List S84) (b : List Bool) (hb : b.length ≤ 8) (hm : m.length ≤ 6) (hp : ∀ i, i < m.length → ∀ t, t < (rd_T84 m (i : Int)).f0.length → 0 ≤ rd (rd_T84 m (i : Int)).f0 (t : Int)) (hp3 : ∀ i, i < m.length → (rd_T84 m (i : Int)).f0.length ≤ 3) :
    ∀ d i lost out k, i + d = m.length → lost.length ≤ i → out.length ≤ i → 60 * d + 5 < k → impl_remap.l0 k out lost m (m.length : Int) (i : Int) b = some (re m b d i lost out) := by
  intro d
  induction d with
  | zero =>
    intro i lost out k hd hl ho hk
    obtain ⟨k, rfl⟩ : ∃ z, k = z + 1 := ⟨k - 1, by omega⟩
    simp only [impl_remap.l0]
    rw [if_neg (by omega)]
    rfl
  | succ d ih =>
    intro i lost out k hd hl ho hk
    obtain ⟨k, rfl⟩ : ∃ z, k = z + 1 := ⟨k - 1, by omega⟩
    have hi : i < m.length := by omega
    have h3 := hp3 i hi
    simp only [impl_remap.l0]
    rw [if_pos (by omega), if_pos (by omega), if_pos (by omega)]
    have key := impl_filt m b hb i (rd_T84 m (i : Int)).f0 (hp i hi) h3 (re m b (d + 1) i lost out) (60 * d + 5) lost out (m.length : Int) (by omega) (by omega) (rd_T84 m (i : Int)).f0.length 0 [] k (by omega) (by simp; omega)
    simp only [List.drop_zero, List.nil_append] at key
    refine key (fun he k' hk' => ?_) (fun he k' hk' => ?_) (by omega)
    · rw [wrap_of (x := (i : Int) + 1) (by omega) (by omega)]
      have := ih (i + 1) (lost ++ [(i : Int)]) (out ++ [⟨(rd_T84 m (i : Int)).f0⟩]) k' (by omega) (by simp; omega) (by simp; omega) hk'
      rw [show ((i + 1 : Nat) : Int) = (i : Int) + 1 from by omega] at this
      rw [this]
      simp only [re]
      rw [if_pos he]
    · rw [wrap_of (x := (i : Int) + 1) (by omega) (by omega)]
      have := ih (i + 1) lost (out ++ [⟨fill b b.length 0 ((rd_T84 m (i : Int)).f0.filter (lives b))⟩]) k' (by omega) (by omega) (by simp; omega) hk'
      rw [show ((i + 1 : Nat) : Int) = (i : Int) + 1 from by omega] at this
      rw [this]
      simp only [re]
      rw [if_neg he]
theorem re_small (m : List S84) (b : List Bool) (hp3 : ∀ i, i < m.length → (rd_T84 m (i : Int)).f0.length ≤ 3) : ∀ d i lost out, i + d = m.length → lost.length ≤ i → out.length ≤ i → (∀ x ∈ out, x.f0.length ≤ 3) → (re m b d i lost out).1.length ≤ i + d ∧ (re m b d i lost out).2.length ≤ i + d ∧ ∀ x ∈ (re m b d i lost out).1, x.f0.length ≤ 3 := by
  intro d
  induction d with
  | zero => intro i lost out hd hl ho hx; exact ⟨by simpa [re] using ho, by simpa [re] using hl, by simpa [re] using hx⟩
  | succ d ih =>
    intro i lost out hd hl ho hx
    have h3 := hp3 i (by omega)
    simp only [re]
    split
    · have := ih (i + 1) (lost ++ [(i : Int)]) (out ++ [⟨(rd_T84 m (i : Int)).f0⟩]) (by omega) (by simp; omega) (by simp; omega) (fun x hx' => by
        rcases List.mem_append.1 hx' with h | h
        · exact hx x h
        · rw [List.mem_singleton.1 h]; exact h3)
      exact ⟨by omega, by omega, this.2.2⟩
    · have := ih (i + 1) lost (out ++ [⟨fill b b.length 0 ((rd_T84 m (i : Int)).f0.filter (lives b))⟩]) (by omega) (by omega) (by simp; omega) (fun x hx' => by
        rcases List.mem_append.1 hx' with h | h
        · exact hx x h
        · rw [List.mem_singleton.1 h]; exact fill_len b _ _ _ (Nat.le_trans (List.length_filter_le _ _) h3))
      exact ⟨by omega, by omega, this.2.2⟩
theorem okRest_nn (p : List Int) : ∀ d j, okRest p j d = true → ∀ t, j ≤ t → t < j + d → 0 ≤ rd p (t : Int)
  | 0, j, _, t, h1, h2 => by omega
  | d + 1, j, h, t, h1, h2 => by
    simp only [okRest, okAt, Bool.and_eq_true, decide_eq_true_eq] at h
    by_cases e : t = j
    · subst e; exact h.1.1.1
    · exact okRest_nn p d (j + 1) h.2 t (by omega) (by omega)
theorem okAll_at (l : List S84) : ∀ d j, okAll l j d = true → ∀ t, j ≤ t → t < j + d → okP (rd_T84 l (t : Int)) = true
  | 0, j, _, t, h1, h2 => by omega
  | d + 1, j, h, t, h1, h2 => by
    simp only [okAll, Bool.and_eq_true] at h
    by_cases e : t = j
    · subst e; exact h.1
    · exact okAll_at l d (j + 1) h.2 t (by omega) (by omega)
/-! ### what remapping comes to -/
theorem nodup_le : ∀ (l S : List Int), l.Nodup → (∀ x ∈ l, x ∈ S) → l.length ≤ S.length
  | [], _, _, _ => by simp
  | a :: l, S, h, hs => by
    have ha := hs a List.mem_cons_self
    have h2 := List.nodup_cons.1 h
    have := nodup_le l (S.erase a) h2.2 (fun x hx => (List.mem_erase_of_ne (fun (e : x = a) => h2.1 (by rw [← e]; exact hx))).2 (hs x (List.mem_cons_of_mem _ hx)))
    rw [List.length_erase_of_mem ha] at this
    have := List.length_pos_of_mem ha
    simp only [List.length_cons]
    omega
/-- Machine v lives. -/
def Al (b : List Bool) (v : Int) : Prop := 0 ≤ v ∧ v < (b.length : Int) ∧ rdOf false b v = true
/-- The living machines from q on. -/
def al (b : List Bool) : Nat → Nat → List Int
  | 0, _ => []
  | d + 1, q => if rdOf false b (q : Int) = true then (q : Int) :: al b d (q + 1) else al b d (q + 1)
theorem al_mem (b : List Bool) : ∀ d q, q + d = b.length → ∀ v, v ∈ al b d q ↔ Al b v ∧ (q : Int) ≤ v
  | 0, q, hd, v => by
    simp only [al, List.not_mem_nil, false_iff]
    rintro ⟨⟨_, h, _⟩, h2⟩
    omega
  | d + 1, q, hd, v => by
    have ih := al_mem b d (q + 1) (by omega) v
    simp only [al]
    by_cases h : rdOf false b (q : Int) = true
    · rw [if_pos h, List.mem_cons, ih]
      constructor
      · rintro (h1 | h1)
        · subst h1; exact ⟨⟨by omega, by omega, h⟩, by omega⟩
        · exact ⟨h1.1, by omega⟩
      · rintro ⟨h1, h2⟩
        by_cases e : v = (q : Int)
        · exact .inl e
        · exact .inr ⟨h1, by omega⟩
    · rw [if_neg h, ih]
      constructor
      · rintro ⟨h1, h2⟩; exact ⟨h1, by omega⟩
      · rintro ⟨h1, h2⟩
        refine ⟨h1, ?_⟩
        by_cases e : v = (q : Int)
        · subst e; exact absurd h1.2.2 h
        · omega
theorem al_nodup (b : List Bool) : ∀ d q, q + d = b.length → (al b d q).Nodup
  | 0, q, _ => by simp [al]
  | d + 1, q, hd => by
    have ih := al_nodup b d (q + 1) (by omega)
    simp only [al]
    split
    · refine List.nodup_cons.2 ⟨fun h => ?_, ih⟩
      have := ((al_mem b d (q + 1) (by omega) _).1 h).2
      omega
    · exact ih
/-- How many live. -/
def nal (b : List Bool) : Nat := (al b b.length 0).length
/-- Where filling stands. -/
def Fi (b : List Bool) (q : Nat) (nx : List Int) : Prop := nx.Nodup ∧ (∀ v ∈ nx, Al b v) ∧ nx.length ≤ 3 ∧ (3 ≤ nx.length ∨ ∀ j : Nat, j < q → rdOf false b (j : Int) = true → (j : Int) ∈ nx)
theorem fill_inv (b : List Bool) : ∀ d q nx, q + d = b.length → Fi b q nx → Fi b b.length (fill b d q nx)
  | 0, q, nx, hd, h => by
    have : q = b.length := by omega
    subst this
    exact h
  | d + 1, q, nx, hd, ⟨h1, h2, h3, h4⟩ => by
    simp only [fill]
    refine fill_inv b d (q + 1) _ (by omega) ?_
    by_cases h : rdOf false b (q : Int) = true ∧ nx.length < 3 ∧ ¬ (q : Int) ∈ nx
    · rw [if_pos h]
      refine ⟨?_, fun v hv => ?_, by simp; omega, ?_⟩
      · rw [List.nodup_append]
        refine ⟨h1, by simp, fun x hx y hy => ?_⟩
        rw [List.mem_singleton.1 hy]
        intro e
        subst e
        exact h.2.2 hx
      · rcases List.mem_append.1 hv with hv | hv
        · exact h2 v hv
        · rw [List.mem_singleton.1 hv]; exact ⟨by omega, by omega, h.1⟩
      · rcases h4 with h4 | h4
        · exact absurd h4 (by omega)
        · refine .inr fun j hj hr => ?_
          by_cases e : j = q
          · subst e; simp
          · exact List.mem_append_left _ (h4 j (by omega) hr)
    · rw [if_neg h]
      refine ⟨h1, h2, h3, ?_⟩
      rcases h4 with h4 | h4
      · exact .inl h4
      · by_cases h5 : nx.length < 3
        · refine .inr fun j hj hr => ?_
          by_cases e : j = q
          · subst e
            by_cases hm : (j : Int) ∈ nx
            · exact hm
            · exact absurd ⟨hr, h5, hm⟩ h
          · exact h4 j (by omega) hr
        · exact .inl (by omega)
theorem fi_len (b : List Bool) (nx : List Int) (h : Fi b b.length nx) : nx.length = min (nal b) 3 := by
  obtain ⟨h1, h2, h3, h4⟩ := h
  have hle : nx.length ≤ nal b := nodup_le _ _ h1 (fun x hx => (al_mem b b.length 0 (by omega) x).2 ⟨h2 x hx, (h2 x hx).1⟩)
  rcases h4 with h4 | h4
  · omega
  · have hge : nal b ≤ nx.length := nodup_le _ _ (al_nodup b b.length 0 (by omega)) (fun x hx => by
      obtain ⟨⟨g1, g2, g3⟩, _⟩ := (al_mem b b.length 0 (by omega) x).1 hx
      obtain ⟨j, rfl⟩ : ∃ j : Nat, x = (j : Int) := ⟨x.toNat, by omega⟩
      exact h4 j (by omega) g3)
    omega
/-- A right place: its machines. -/
def Rp (p : List Int) : Prop := p.Nodup ∧ (∀ v ∈ p, 0 ≤ v ∧ v ≤ 7) ∧ 1 ≤ p.length ∧ p.length ≤ 3
theorem okRest_of (p : List Int) (h1 : p.Nodup) (h2 : ∀ v ∈ p, 0 ≤ v ∧ v ≤ 7) : ∀ d j, j + d = p.length → okRest p j d = true
  | 0, _, _ => rfl
  | d + 1, j, hd => by
    have hj : j < p.length := by omega
    simp only [okRest, okAt, Bool.and_eq_true, decide_eq_true_eq]
    rw [rd_get hj]
    refine ⟨⟨h2 _ (List.getElem_mem hj), ?_⟩, okRest_of p h1 h2 d (j + 1) (by omega)⟩
    simp only [Bool.not_eq_true', decide_eq_false_iff_not]
    intro hm
    obtain ⟨i, hi, e⟩ := List.mem_take_iff_getElem.1 hm
    have := List.pairwise_iff_getElem.1 h1 i j (by omega) hj (by omega)
    exact this e
theorem of_okRest (p : List Int) : ∀ d j, j + d = p.length → okRest p j d = true → ∀ t (h : t < p.length), j ≤ t → (0 ≤ p[t] ∧ p[t] ≤ 7) ∧ ¬ p[t] ∈ p.take t
  | 0, _, hd, _, t, ht, hj => by omega
  | d + 1, j, hd, h, t, ht, hj => by
    simp only [okRest, okAt, Bool.and_eq_true, decide_eq_true_eq] at h
    by_cases e : t = j
    · subst e
      have := h.1
      rw [rd_get ht] at this
      exact ⟨this.1, by simpa using this.2⟩
    · exact of_okRest p d (j + 1) (by omega) h.2 t ht (by omega)
theorem rp_of {p : S84} (h : okP p = true) : Rp p.f0 := by
  simp only [okP, Bool.and_eq_true, decide_eq_true_eq] at h
  have key := of_okRest p.f0 p.f0.length 0 (by omega) h.2
  refine ⟨List.pairwise_iff_getElem.2 fun i j hi hj hij e => ?_, fun v hv => ?_, h.1⟩
  · exact (key j hj (by omega)).2 (e ▸ List.mem_take_iff_getElem.2 ⟨i, by omega, rfl⟩)
  · obtain ⟨t, ht, rfl⟩ := List.mem_iff_getElem.1 hv
    exact (key t ht (by omega)).1
theorem of_rp {p : S84} (h : Rp p.f0) : okP p = true := by
  simp only [okP, Bool.and_eq_true, decide_eq_true_eq]
  exact ⟨h.2.2, okRest_of _ h.1 h.2.1 _ 0 (by omega)⟩
theorem okAll_of (l : List S84) : ∀ d i, i + d = l.length → (∀ x ∈ l, Rp x.f0) → okAll l i d = true
  | 0, _, _, _ => rfl
  | d + 1, i, hd, h => by
    have hi : i < l.length := by omega
    simp only [okAll, Bool.and_eq_true]
    exact ⟨of_rp (by rw [rdP_get hi]; exact h _ (List.getElem_mem hi)), okAll_of l d (i + 1) (by omega) h⟩
theorem okPl_of {l : List S84} (h1 : 1 ≤ l.length ∧ l.length ≤ 6) (h : ∀ x ∈ l, Rp x.f0) : okPl l = true := by
  simp only [okPl, Bool.and_eq_true, decide_eq_true_eq]
  exact ⟨h1, okAll_of l l.length 0 (by omega) h⟩
theorem of_okPl {l : List S84} (h : okPl l = true) : (1 ≤ l.length ∧ l.length ≤ 6) ∧ ∀ x ∈ l, Rp x.f0 := by
  simp only [okPl, Bool.and_eq_true, decide_eq_true_eq] at h
  refine ⟨h.1, fun x hx => ?_⟩
  obtain ⟨t, ht, rfl⟩ := List.mem_iff_getElem.1 hx
  have := okAll_at l l.length 0 h.2 t (by omega) (by omega)
  rw [rdP_get ht] at this
  exact rp_of this
theorem lives_iff {b : List Bool} {v : Int} (h0 : 0 ≤ v) : lives b v = true ↔ Al b v := by
  unfold lives Al
  by_cases h : v < (b.length : Int)
  · rw [if_pos h]; exact ⟨fun e => ⟨h0, h, e⟩, fun e => e.2.2⟩
  · rw [if_neg h]; exact ⟨fun e => (by cases e), fun e => absurd e.2.1 h⟩
theorem filt_fi (b : List Bool) (p : List Int) (h : Rp p) : Fi b 0 (p.filter (lives b)) :=
  ⟨h.1.filter _, fun v hv => (lives_iff (h.2.1 v (List.mem_filter.1 hv).1).1).1 (List.mem_filter.1 hv).2, Nat.le_trans (List.length_filter_le _ _) h.2.2.2, .inr fun j hj => by omega⟩
/-- What place i becomes. -/
def rem1 (b : List Bool) (p : S84) : S84 := if (p.f0.filter (lives b)).length = 0 then ⟨p.f0⟩ else ⟨fill b b.length 0 (p.f0.filter (lives b))⟩
def gone1 (b : List Bool) (p : S84) : Bool := decide ((p.f0.filter (lives b)).length = 0)
theorem rem1_gone {b : List Bool} {p : S84} (h : gone1 b p = true) : rem1 b p = p := by
  unfold rem1; rw [if_pos (by simpa [gone1] using h)]
theorem rem1_stays {b : List Bool} {p : S84} (hr : Rp p.f0) (h : gone1 b p = false) : Fi b b.length (rem1 b p).f0 ∧ 1 ≤ (rem1 b p).f0.length := by
  have h' : ¬ (p.f0.filter (lives b)).length = 0 := by simpa [gone1] using h
  unfold rem1
  rw [if_neg h']
  have hf := fill_inv b b.length 0 _ (by omega) (filt_fi b p.f0 hr)
  refine ⟨hf, ?_⟩
  show 1 ≤ (fill b b.length 0 _).length
  have hl := fi_len b _ hf
  have : 1 ≤ nal b := by
    obtain ⟨v, hv⟩ := List.exists_mem_of_length_pos (show 0 < (p.f0.filter (lives b)).length by omega)
    exact List.length_pos_of_mem ((al_mem b b.length 0 (by omega) v).2 ⟨(filt_fi b p.f0 hr).2.1 v hv, ((filt_fi b p.f0 hr).2.1 v hv).1⟩)
  omega
theorem rem1_rp {b : List Bool} {p : S84} (hb : b.length ≤ 8) (hr : Rp p.f0) : Rp (rem1 b p).f0 := by
  cases h : gone1 b p with
  | true => rw [rem1_gone h]; exact hr
  | false =>
    obtain ⟨⟨h1, h2, h3, _⟩, h4⟩ := rem1_stays hr h
    exact ⟨h1, fun v hv => by obtain ⟨g1, g2, _⟩ := h2 v hv; omega, h4, h3⟩
/-- The regions that have none of their own from i on. -/
def gones (b : List Bool) : List S84 → Nat → List Int
  | [], _ => []
  | p :: l, i => if gone1 b p = true then (i : Int) :: gones b l (i + 1) else gones b l (i + 1)
theorem re_eq (m : List S84) (b : List Bool) : ∀ d i lost out, i + d = m.length → re m b d i lost out = (out ++ (m.drop i).map (rem1 b), lost ++ gones b (m.drop i) i)
  | 0, i, lost, out, hd => by rw [List.drop_of_length_le (by omega)]; simp [re, gones]
  | d + 1, i, lost, out, hd => by
    have hi : i < m.length := by omega
    rw [List.drop_eq_getElem_cons hi]
    simp only [re, gones, List.map_cons]
    rw [rdP_get hi]
    by_cases h : (m[i].f0.filter (lives b)).length = 0
    · rw [if_pos h, re_eq m b d (i + 1) _ _ (by omega), if_pos (show gone1 b m[i] = true by simp only [gone1, h, decide_true]), show rem1 b m[i] = ⟨m[i].f0⟩ by unfold rem1; rw [if_pos h]]
      simp
    · rw [if_neg h, re_eq m b d (i + 1) _ _ (by omega), if_neg (show ¬ gone1 b m[i] = true by simp only [gone1, h, decide_false]; simp), show rem1 b m[i] = ⟨fill b b.length 0 (m[i].f0.filter (lives b))⟩ by unfold rem1; rw [if_neg h]]
      simp
theorem gones_mem (b : List Bool) : ∀ (l : List S84) (i : Nat) (v : Int), v ∈ gones b l i ↔ ∃ j, ∃ h : j < l.length, v = ((i + j : Nat) : Int) ∧ gone1 b l[j] = true
  | [], i, v => by simp [gones]
  | p :: l, i, v => by
    have ih := gones_mem b l (i + 1) v
    simp only [gones]
    constructor
    · intro hv
      have : (v = (i : Int) ∧ gone1 b p = true) ∨ v ∈ gones b l (i + 1) := by
        by_cases h : gone1 b p = true
        · rw [if_pos h, List.mem_cons] at hv
          exact hv.imp (fun e => ⟨e, h⟩) id
        · rw [if_neg h] at hv; exact .inr hv
      rcases this with ⟨e, h⟩ | h
      · exact ⟨0, by simp, by simpa using e, h⟩
      · obtain ⟨j, hj, e, hg⟩ := ih.1 h
        exact ⟨j + 1, by simpa using hj, by rw [e]; omega, hg⟩
    · rintro ⟨j, hj, e, hg⟩
      cases j with
      | zero =>
        have hg' : gone1 b p = true := hg
        rw [if_pos hg', e]; simp
      | succ j =>
        have := ih.2 ⟨j, by simpa using hj, by rw [e]; omega, hg⟩
        split
        · exact List.mem_cons_of_mem _ this
        · exact this
theorem new_ok (l : List Int) (hl : l.length ≤ maxLen) (k : Nat) (hk : l.length < k) : ∃ h, spec_l1New.f k l = some (l, 0, h) := by
  unfold maxLen at hl
  obtain ⟨r, ⟨h, rfl⟩, e⟩ := loop_inv (fun k (s : Int × Int) => spec_l1New.l0 k l s.1 s.2) (fun i s => s.2 = (i : Int)) (fun r => ∃ h, r = (l, 0, h)) l.length 0
    (fun k i s _ hi hP => .inl ⟨(Go.bits .and .i64 (wrap64 ((wrap64 ((wrap64 (s.1 * 137)) + (wrap64 (rd l s.2)))) + 11)) 1073741823, wrap64 (s.2 + 1)), by
      show wrap64 (s.2 + 1) = ((i + 1 : Nat) : Int)
      rw [hP, wrap_of (by omega) (by omega)]; omega, by
      show spec_l1New.l0 (k + 1) l s.1 s.2 = _
      simp only [spec_l1New.l0]
      rw [if_pos (by omega), if_pos (by omega)]⟩)
    (fun k s _ hP => ⟨_, ⟨s.1, rfl⟩, by
      show spec_l1New.l0 (k + 1) l s.1 s.2 = _
      simp only [spec_l1New.l0]
      rw [if_neg (by omega)]⟩) l.length 0 k (wrap64 (101027 + (l.length : Int)), 0) (by omega) (by omega) rfl
  exact ⟨h, e⟩
theorem byte_ok (l : List Int) (hl : l.length ≤ maxLen) (i h : Int) (hi : 0 ≤ i) : Ok (fun r : Int × Int × Int => 0 ≤ r.1 ∧ r.1 ≤ 255 ∧ 0 ≤ r.2.1) (spec_l1Byte.f l i h) := by
  unfold maxLen at hl
  unfold spec_l1Byte.f
  refine Ok.ite (fun h1 => Ok.pos hi (Ok.ret ?_)) (fun _ => Ok.ret ?_)
  · simp only [and255]
    refine ⟨by omega, by omega, ?_⟩
    rw [wrap_of (by omega) (by omega)]; omega
  · simp only [and255]
    exact ⟨by omega, by omega, hi⟩
theorem below_ok (l : List Int) (hl : l.length ≤ maxLen) (i h : Int) (hi : 0 ≤ i) (n : Int) : Ok (fun r : Int × Int × Int => 0 ≤ r.1 ∧ (0 < n → r.1 < n) ∧ (n ≤ 0 → r.1 = 0) ∧ 0 ≤ r.2.1) (spec_l1Below.f l i h n) := by
  unfold spec_l1Below.f
  refine Ok.ite (fun h1 => Ok.ret ⟨by omega, by omega, by omega, hi⟩) (fun h1 => Ok.ite (fun h2 => ?_) (fun h2 => ?_))
  · refine Ok.bind (byte_ok l hl i h hi) fun r hr => Ok.neg (by omega) (Ok.ret ?_)
    obtain ⟨b, i', h'⟩ := r
    obtain ⟨q1, q2, q3⟩ := hr
    dsimp only at *
    rw [Int.tmod_eq_emod_of_nonneg q1]
    exact ⟨Int.emod_nonneg _ (by omega), fun _ => Int.emod_lt_of_pos _ (by omega), by omega, q3⟩
  · refine Ok.bind (byte_ok l hl i h hi) fun r1 h1' => Ok.bind (byte_ok l hl r1.2.1 r1.2.2 h1'.2.2) fun r2 h2' => Ok.bind (byte_ok l hl r2.2.1 r2.2.2 h2'.2.2) fun r3 h3' => Ok.bind (byte_ok l hl r3.2.1 r3.2.2 h3'.2.2) fun r4 h4' => Ok.neg (by omega) (Ok.ret ?_)
    obtain ⟨b1, i1, h1⟩ := r1
    obtain ⟨b2, i2, h2⟩ := r2
    obtain ⟨b3, i3, h3⟩ := r3
    obtain ⟨b4, i4, h4⟩ := r4
    obtain ⟨p1, p2, p3⟩ := h1'
    obtain ⟨q1, q2, q3⟩ := h2'
    obtain ⟨u1, u2, u3⟩ := h3'
    obtain ⟨v1, v2, v3⟩ := h4'
    dsimp only at *
    rw [wrap_of (x := b1 * 16777216) (by omega) (by omega), wrap_of (x := b2 * 65536) (by omega) (by omega), wrap_of (x := b1 * 16777216 + b2 * 65536) (by omega) (by omega), wrap_of (x := b3 * 256) (by omega) (by omega), wrap_of (x := b1 * 16777216 + b2 * 65536 + b3 * 256) (by omega) (by omega), wrap_of (x := b1 * 16777216 + b2 * 65536 + b3 * 256 + b4) (by omega) (by omega), Int.tmod_eq_emod_of_nonneg (by omega)]
    exact ⟨Int.emod_nonneg _ (by omega), fun _ => Int.emod_lt_of_pos _ (by omega), by omega, v3⟩
theorem once_ok (l : List Int) (hl : l.length ≤ maxLen) (i h : Int) (hi : 0 ≤ i) (n : Int) : Ok (fun r : Bool × Int × Int => 0 ≤ r.2.1) (spec_l1Once.f l i h n) := by
  unfold spec_l1Once.f
  exact Ok.bind (below_ok l hl i h hi n) fun r hr => Ok.ret hr.2.2.2
/-! ### what is drawn -/
theorem dw_ok : ∀ d k (x : List S84), x.length + d = 7 → 1 ≤ x.length → d + 1 < k → Ok (fun y : List S84 => y.length ≤ 7) (spec_l5Draw.w k x) := by
  intro d
  induction d with
  | zero =>
    intro k x hd h1 hk
    obtain ⟨k, rfl⟩ : ∃ q, k = q + 1 := ⟨k - 1, by omega⟩
    rw [spec_l5Draw.w]
    exact Ok.neg (by omega) (Ok.ret (by omega))
  | succ d ih =>
    intro k x hd h1 hk
    obtain ⟨k, rfl⟩ : ∃ q, k = q + 1 := ⟨k - 1, by omega⟩
    rw [spec_l5Draw.w]
    exact Ok.pos (by omega) (Ok.pos (by omega) (ih k _ (by simp; omega) (by simp) (by omega)))
def Sh (x : List S84) : Prop := ∀ p ∈ x, 1 ≤ p.f0.length ∧ p.f0.length ≤ 3
theorem dh_ok (l : List Int) (hl : l.length ≤ maxLen) (x : List S84) (h1 : 1 ≤ x.length) (h4 : x.length ≤ 4) (hx : Sh x) (i h : Int) (hi : 0 ≤ i) (k : Nat) (hk : 20 < k) : Ok (fun r : List S84 × Int × Int => r.1.length ≤ 7 ∧ 0 ≤ r.2.1) (spec_l5Draw.h k x l i h) := by
  unfold spec_l5Draw.h
  refine Ok.bind (below_ok l hl i h hi _) fun a ha => Ok.bind (below_ok l hl _ _ ha.2.2.2 3) fun b hb => Ok.pos ha.1 (Ok.pos (ha.2.1 (by omega)) ?_)
  have ha2 := ha.2.1 (by omega)
  have ha1 := ha.1
  have hp : 1 ≤ (rd_T84 x a.1).f0.length ∧ (rd_T84 x a.1).f0.length ≤ 3 := by
    obtain ⟨j, hj⟩ : ∃ j : Nat, a.1 = (j : Int) := ⟨a.1.toNat, by omega⟩
    rw [hj, rdP_get (show j < x.length by omega)]
    exact hx _ (List.getElem_mem _)
  refine Ok.ite (fun _ => Ok.bind (below_ok l hl _ _ hb.2.2.2 4) fun c hc => Ok.pos (by omega) (Ok.pos hc.1 (Ok.pos (hc.2.1 (by omega)) (Ok.pos (by omega) (Ok.ret ⟨?_, hc.2.2.2⟩))))) (fun _ => Ok.ite (fun _ => Ok.ret ⟨?_, hb.2.2.2⟩) (fun _ => Ok.ite (fun _ => Ok.bind (dw_ok (7 - x.length) k x (by omega) h1 (by omega)) fun y hy => Ok.ret ⟨hy, hb.2.2.2⟩) (fun _ => Ok.ret ⟨?_, hb.2.2.2⟩)))
  · show (x.set _ _).length ≤ 7; rw [List.length_set]; omega
  · show (x.set _ _).length ≤ 7; rw [List.length_set]; omega
  · show x.length ≤ 7; omega
theorem dl1_ok (l : List Int) (hl : l.length ≤ maxLen) (Post : List S84 × Int × Int → Prop) (x : List S84) (hx : x.length ≤ 6) (n : Int) (M : Nat) (hM : 10 < M)
    (hc : ∀ k (p : List Int) (i h : Int), M < k → 0 ≤ i → 1 ≤ p.length → p.length ≤ 3 → Ok Post (spec_l5Draw.l0 k (x ++ [⟨p⟩]) (wrap64 (n - 1)) l i h)) :
    ∀ e k (p : List Int) (i h : Int), p.length + e ≤ 3 → 1 ≤ p.length + e → 0 ≤ i → M + e + 2 < k → Ok Post (spec_l5Draw.l1 k x n (e : Int) l i h p) := by
  intro e
  induction e with
  | zero =>
    intro k p i h h1 h2 hi hk
    obtain ⟨k, rfl⟩ : ∃ q, k = q + 1 := ⟨k - 1, by omega⟩
    simp only [spec_l5Draw.l1]
    exact Ok.neg (by omega) (Ok.pos (by omega) (hc k p i h (by omega) hi (by omega) (by omega)))
  | succ e ih =>
    intro k p i h h1 h2 hi hk
    obtain ⟨k, rfl⟩ : ∃ q, k = q + 1 := ⟨k - 1, by omega⟩
    simp only [spec_l5Draw.l1]
    refine Ok.pos (by omega) (Ok.bind (below_ok l hl i h hi 6) fun r1 g1 => ?_)
    rw [has_ok p r1.1 (by unfold maxLen; omega) k (by omega), Option.bind_some, wrap_of (x := ((e + 1 : Nat) : Int) - 1) (by omega) (by omega), show ((e + 1 : Nat) : Int) - 1 = (e : Int) from by omega]
    refine Ok.ite (fun hm => ih k p _ _ (by omega) ?_ g1.2.2.2 (by omega)) (fun _ => Ok.pos (by omega) (ih k _ _ _ (by simp; omega) (by simp; omega) g1.2.2.2 (by omega)))
    have := List.length_pos_of_mem (of_decide_eq_true hm)
    omega
theorem dl0_ok (l : List Int) (hl : l.length ≤ maxLen) : ∀ e k (x : List S84) (i h : Int), x.length + e ≤ 4 → 1 ≤ x.length + e → Sh x → 0 ≤ i → 20 * e + 40 < k → Ok (fun r : List S84 × Int × Int => r.1.length ≤ 7 ∧ 0 ≤ r.2.1) (spec_l5Draw.l0 k x (e : Int) l i h) := by
  intro e
  induction e with
  | zero =>
    intro k x i h h1 h2 hs hi hk
    obtain ⟨k, rfl⟩ : ∃ q, k = q + 1 := ⟨k - 1, by omega⟩
    simp only [spec_l5Draw.l0]
    exact Ok.neg (by omega) (Ok.bind (once_ok l hl i h hi 10) fun r1 g1 => Ok.ite (fun _ => dh_ok l hl x (by omega) (by omega) hs _ _ g1 k (by omega)) (fun _ => Ok.ret ⟨by show x.length ≤ 7; omega, g1⟩))
  | succ e ih =>
    intro k x i h h1 h2 hs hi hk
    obtain ⟨k, rfl⟩ : ∃ q, k = q + 1 := ⟨k - 1, by omega⟩
    simp only [spec_l5Draw.l0]
    refine Ok.pos (by omega) (Ok.bind (below_ok l hl i h hi 3) fun r1 g1 => ?_)
    have q1 := g1.2.1 (by omega)
    have q0 := g1.1
    obtain ⟨t, ht⟩ : ∃ t : Nat, 1 + r1.1 = (t : Int) := ⟨(1 + r1.1).toNat, by omega⟩
    rw [wrap_of (x := 1 + r1.1) (by omega) (by omega), ht]
    refine dl1_ok l hl _ x (by omega) _ (20 * e + 40) (by omega) (fun k' p i' h' hk' hi' hp hp3 => ?_) t k [] _ _ (by simp; omega) (by simp; omega) g1.2.2.2 (by omega)
    rw [wrap_of (x := ((e + 1 : Nat) : Int) - 1) (by omega) (by omega), show ((e + 1 : Nat) : Int) - 1 = (e : Int) from by omega]
    refine ih k' _ _ _ (by simp; omega) (by simp; omega) (fun q hq => ?_) hi' (by omega)
    rcases List.mem_append.1 hq with hq | hq
    · exact hs q hq
    · rw [List.mem_singleton.1 hq]; exact ⟨hp, hp3⟩
theorem drawPl_ok (l : List Int) (hl : l.length ≤ maxLen) (i h : Int) (hi : 0 ≤ i) (k : Nat) (hk : 200 < k) : Ok (fun r : List S84 × Int × Int => r.1.length ≤ 7 ∧ 0 ≤ r.2.1) (spec_l5Draw.f k l i h) := by
  unfold spec_l5Draw.f
  refine Ok.bind (below_ok l hl i h hi 4) fun r1 g1 => ?_
  have q1 := g1.2.1 (by omega)
  have q0 := g1.1
  obtain ⟨t, ht⟩ : ∃ t : Nat, 1 + r1.1 = (t : Int) := ⟨(1 + r1.1).toNat, by omega⟩
  rw [wrap_of (x := 1 + r1.1) (by omega) (by omega), ht]
  exact dl0_ok l hl t k [] _ _ (by simp; omega) (by simp; omega) (fun _ h => by cases h) g1.2.2.2 (by omega)
theorem drl_ok (l : List Int) (hl : l.length ≤ maxLen) (x : List S84) : ∀ d k (a : List Bool) (i h : Int), a.length + d ≤ 8 → 0 ≤ i → d + 1 < k → Ok (fun r : List S84 × List Bool => r.1 = x ∧ r.2.length ≤ 9) (spec_DrawRemap.l0 k x a (d : Int) l i h) := by
  intro d
  induction d with
  | zero =>
    intro k a i h h1 hi hk
    obtain ⟨k, rfl⟩ : ∃ q, k = q + 1 := ⟨k - 1, by omega⟩
    simp only [spec_DrawRemap.l0]
    exact Ok.neg (by omega) (Ok.bind (once_ok l hl i h hi 20) fun r1 g1 => Ok.ite (fun _ => Ok.pos (by omega) (Ok.ret ⟨rfl, by simp⟩)) (fun _ => Ok.ret ⟨rfl, by show a.length ≤ 9; omega⟩))
  | succ d ih =>
    intro k a i h h1 hi hk
    obtain ⟨k, rfl⟩ : ∃ q, k = q + 1 := ⟨k - 1, by omega⟩
    simp only [spec_DrawRemap.l0]
    refine Ok.pos (by omega) (Ok.bind (once_ok l hl i h hi 3) fun r1 g1 => Ok.pos (by omega) ?_)
    rw [wrap_of (x := ((d + 1 : Nat) : Int) - 1) (by omega) (by omega), show ((d + 1 : Nat) : Int) - 1 = (d : Int) from by omega]
    exact ih k _ _ _ (by simp; omega) g1 (by omega)
theorem drawRemap_ok (l : List Int) (hl : l.length ≤ maxLen) (k : Nat) (hk : l.length + 200 < k) : Ok (fun r : List S84 × List Bool => r.1.length ≤ 7 ∧ r.2.length ≤ 9) (spec_DrawRemap.f k l) := by
  obtain ⟨h0, e0⟩ := new_ok l hl k (by omega)
  unfold spec_DrawRemap.f
  rw [e0, Option.bind_some]
  refine Ok.bind (drawPl_ok l hl 0 h0 (by omega) k (by omega)) fun r1 g1 => Ok.bind (below_ok l hl _ _ g1.2 9) fun r2 g2 => ?_
  have q1 := g2.2.1 (by omega)
  have q0 := g2.1
  obtain ⟨t, ht⟩ : ∃ t : Nat, r2.1 = (t : Int) := ⟨r2.1.toNat, by omega⟩
  rw [ht]
  exact (drl_ok l hl r1.1 t k [] _ _ (by simp; omega) g2.2.2.2 (by omega)).mono fun r hr => ⟨by rw [hr.1]; exact g1.1, hr.2⟩
theorem drawSpread_ok (l : List Int) (hl : l.length ≤ maxLen) (k : Nat) (hk : l.length < k) : Ok (fun _ : Int × Int => True) (spec_DrawSpread.f k l) := by
  obtain ⟨h0, e0⟩ := new_ok l hl k hk
  unfold spec_DrawSpread.f
  rw [e0, Option.bind_some]
  unfold spec_l1From.f
  refine Ok.bind (Ok.bind (below_ok l hl 0 h0 (by omega) _) fun r1 g1 => Ok.ret (P := fun r : Int × Int × Int => 0 ≤ r.2.1) g1.2.2.2) fun r2 g2 => Ok.bind (Ok.bind (below_ok l hl _ _ g2 _) fun r1 g1 => Ok.ret (P := fun r : Int × Int × Int => 0 ≤ r.2.1) g1.2.2.2) fun r3 g3 => Ok.ret trivial
/-! ### remapping, by both -/
theorem remaps (m : List S84) (b : List Bool) (hm : m.length ≤ 7) (K : Nat) (hK : 2000 < K) : (okPl m = true ∧ b.length ≤ 8 ∧ spec_Remap.f K m b = some (m.map (rem1 b), gones b m 0) ∧ impl_Remap.f K m b = some (m.map (rem1 b), gones b m 0)) ∨ ((okPl m = true → 8 < b.length) ∧ spec_Remap.f K m b = some ([], []) ∧ impl_Remap.f K m b = some ([], [])) := by
  obtain ⟨K, rfl⟩ : ∃ z, K = z + 1 := ⟨K - 1, by omega⟩
  have hS := spec_places m (K + 1) (by omega)
  have hI := impl_places m (by omega) (K + 1) (by omega)
  simp only [spec_Remap.f, impl_Remap.f, hS, hI, Option.bind_some]
  by_cases ho : okPl m = true
  · by_cases h8 : (b.length : Int) > 8
    · refine .inr ⟨fun _ => by omega, ?_, ?_⟩
      · simp only [ho, if_true, decide_eq_true h8, spec_Remap.j0]
      · simp only [ho, if_true]
        rw [if_pos h8]
    · have ho' := ho
      simp only [okPl, Bool.and_eq_true, decide_eq_true_eq] at ho'
      have hP := okAll_at m m.length 0 ho'.2
      have hp3 : ∀ i, i < m.length → (rd_T84 m (i : Int)).f0.length ≤ 3 := fun i hi => by
        have := hP i (by omega) (by omega)
        simp only [okP, Bool.and_eq_true, decide_eq_true_eq] at this
        exact this.1.2
      have hp : ∀ i, i < m.length → ∀ t, t < (rd_T84 m (i : Int)).f0.length → 0 ≤ rd (rd_T84 m (i : Int)).f0 (t : Int) := fun i hi t ht => by
        have := hP i (by omega) (by omega)
        simp only [okP, Bool.and_eq_true, decide_eq_true_eq] at this
        exact okRest_nn _ _ 0 this.2 t (by omega) (by omega)
      have s := spec_all m b (by omega) ho'.1.2 hp hp3 m.length 0 [] [] K (by omega) (by simp) (by simp) (by omega)
      have i2 := impl_all m b (by omega) ho'.1.2 hp hp3 m.length 0 [] [] (K + 1) (by omega) (by simp) (by simp) (by omega)
      have e := re_eq m b m.length 0 [] [] (by omega)
      simp only [List.drop_zero, List.nil_append] at e
      rw [e] at s i2
      refine .inl ⟨ho, by omega, ?_, ?_⟩
      · simp only [ho, if_true, decide_eq_false h8, spec_Remap.j0]
        rw [if_neg (by simp)]
        exact s
      · simp only [ho, if_true]
        rw [if_neg h8]
        unfold impl_remap.f
        rw [show ((0 : Nat) : Int) = 0 from rfl] at i2
        rw [i2]
        rfl
  · refine .inr ⟨fun h => absurd h ho, ?_, ?_⟩
    · simp only [ho, spec_Remap.j0]
      simp
    · simp only [ho]
      simp
/-! ### spreading -/
theorem map_f0 : ∀ a b : List S84, a.map S84.f0 = b.map S84.f0 → a = b
  | [], [], _ => rfl
  | [], _ :: _, h => by simp at h
  | _ :: _, [], h => by simp at h
  | x :: a, y :: b, h => by
    simp only [List.map_cons, List.cons.injEq] at h
    obtain ⟨x0⟩ := x
    obtain ⟨y0⟩ := y
    rw [map_f0 a b h.2]
    have : x0 = y0 := h.1
    rw [this]
def spOk (k : Nat) (r m : Int) : Bool := match spec_Spread.f (k + 60) r m, impl_Spread.f (k + 60) r m with
  | some (a, true), some (b, true) => decide (a.map S84.f0 = b.map S84.f0) && (okPl a && decide (rd (rd_T84 a 0).f0 0 = 0))
  | _, _ => false
theorem sp_all (k : Nat) : ((List.range 6).all fun r => (List.range 8).all fun m => spOk k ((r : Int) + 1) ((m : Int) + 1)) = true := by kernel_rfl
theorem spread_in (k : Nat) (r m : Int) (hr : 1 ≤ r ∧ r ≤ 6) (hm : 1 ≤ m ∧ m ≤ 8) : spOk k r m = true := by
  have h := List.all_eq_true.1 (List.all_eq_true.1 (sp_all k) (r - 1).toNat (List.mem_range.2 (by omega))) (m - 1).toNat (List.mem_range.2 (by omega))
  rwa [show (((r - 1).toNat : Nat) : Int) + 1 = r from by omega, show (((m - 1).toNat : Nat) : Int) + 1 = m from by omega] at h
theorem spreads (r m : Int) (K : Nat) (hK : 100 < K) : (∃ s, spec_Spread.f K r m = some (s, true) ∧ impl_Spread.f K r m = some (s, true) ∧ okPl s = true ∧ rd (rd_T84 s 0).f0 0 = 0) ∨ (spec_Spread.f K r m = some ([], false) ∧ impl_Spread.f K r m = some ([], false)) := by
  by_cases hr : 1 ≤ r ∧ r ≤ 6
  · by_cases hm : 1 ≤ m ∧ m ≤ 8
    · obtain ⟨k, rfl⟩ : ∃ k, K = k + 60 := ⟨K - 60, by omega⟩
      have h := spread_in k r m hr hm
      unfold spOk at h
      split at h
      · rename_i a b e1 e2
        simp only [Bool.and_eq_true, decide_eq_true_eq] at h
        have := map_f0 a b h.1
        subst this
        exact .inl ⟨a, e1, e2, h.2.1, h.2.2⟩
      · cases h
    · obtain ⟨K, rfl⟩ : ∃ z, K = z + 1 := ⟨K - 1, by omega⟩
      refine .inr ⟨?_, ?_⟩
      · simp [spec_Spread.f, in_, hr, hm, spec_Spread.j0]
      · simp [impl_Spread.f, within_, hr, hm]
  · obtain ⟨K, rfl⟩ : ∃ z, K = z + 1 := ⟨K - 1, by omega⟩
    refine .inr ⟨?_, ?_⟩
    · simp [spec_Spread.f, in_, hr, spec_Spread.j0]
    · simp [impl_Spread.f, within_, hr]
/-! ### the law -/
theorem likeInts_ok (l : List Int) (hl : l.length ≤ maxLen) (k : Nat) (hk : l.length < k) : laws_likeInts.f k l l = some true := by
  unfold maxLen at hl
  unfold laws_likeInts.f
  rw [if_pos rfl]
  exact loop_to (fun k (s : Int) => laws_likeInts.l0 k l l s) (fun i s => s = (i : Int)) l.length 0 true
    (fun k i s _ hi hP => ⟨wrap64 (s + 1), by rw [hP, wrap_of (by omega) (by omega)]; omega, by
      show laws_likeInts.l0 (k + 1) l l s = _
      simp only [laws_likeInts.l0]
      rw [if_pos (by omega), if_pos (by omega), if_pos (by omega)]
      first | rw [if_pos rfl] | rw [if_pos trivial]⟩)
    (fun k s _ hP => by
      show laws_likeInts.l0 (k + 1) l l s = _
      simp only [laws_likeInts.l0]
      rw [if_neg (by omega)]) 0 k 0 (by omega) (by omega) rfl
theorem likePl_ok (l : List S84) (hl : l.length ≤ 1048576) (hm : ∀ x ∈ l, x.f0.length ≤ 3) (k : Nat) (hk : l.length + 10 < k) : laws_likePlaces.f k l l = some true := by
  unfold laws_likePlaces.f
  rw [if_pos rfl]
  exact loop_to (fun k (s : Int) => laws_likePlaces.l0 k l l s) (fun i s => s = (i : Int)) l.length 10 true
    (fun k i s hk hi hP => ⟨wrap64 (s + 1), by rw [hP, wrap_of (by omega) (by omega)]; omega, by
      show laws_likePlaces.l0 (k + 1) l l s = _
      simp only [laws_likePlaces.l0]
      have hx := hm _ (List.getElem_mem hi)
      rw [if_pos (by omega), if_pos (by omega), if_pos (by omega), hP, rdP_get hi, likeInts_ok _ (by unfold maxLen; omega) k (by omega)]
      simp⟩)
    (fun k s _ hP => by
      show laws_likePlaces.l0 (k + 1) l l s = _
      simp only [laws_likePlaces.l0]
      rw [if_neg (by omega)]) 0 k 0 (by omega) (by omega) rfl
theorem count_ok (m : List S84) (b : List Bool) (hb : b.length ≤ 8) (x : List S84) (y : List Int) (R : Option Bool) (C : Nat) (hR : ∀ k, C < k → laws_FnPlaces.l1 k m b x y ((nal b : Nat) : Int) 0 0 = R) :
    ∀ d i k s, i + d = b.length → s + (al b d i).length = nal b → C + d + 1 < k → laws_FnPlaces.l0 k m b x y ((s : Nat) : Int) (i : Int) = R := by
  intro d
  induction d with
  | zero =>
    intro i k s hd hs hk
    obtain ⟨k, rfl⟩ : ∃ z, k = z + 1 := ⟨k - 1, by omega⟩
    simp only [laws_FnPlaces.l0]
    rw [if_neg (by omega)]
    simp only [al, List.length_nil, Nat.add_zero] at hs
    rw [hs]
    exact hR k (by omega)
  | succ d ih =>
    intro i k s hd hs hk
    obtain ⟨k, rfl⟩ : ∃ z, k = z + 1 := ⟨k - 1, by omega⟩
    have hn : nal b ≤ 8 := by
      have : ∀ d q, (al b d q).length ≤ d := by
        intro d
        induction d with
        | zero => intro q; simp [al]
        | succ d ih =>
          intro q
          have := ih (q + 1)
          simp only [al]
          split
          · simp only [List.length_cons]; omega
          · omega
      exact Nat.le_trans (this _ _) hb
    simp only [laws_FnPlaces.l0]
    rw [if_pos (by omega), if_pos (by omega), wrap_of (x := (i : Int) + 1) (by omega) (by omega)]
    simp only [al] at hs
    by_cases h : rdOf false b (i : Int) = true
    · rw [if_pos h] at hs ⊢
      simp only [List.length_cons] at hs
      rw [wrap_of (x := (s : Int) + 1) (by omega) (by omega)]
      exact ih (i + 1) k (s + 1) (by omega) (by omega) (by omega)
    · rw [if_neg h] at hs ⊢
      exact ih (i + 1) k s (by omega) (by omega) (by omega)
theorem gone_walk (m : List S84) (b : List Bool) (x : List S84) (y : List Int) (hy : y.length ≤ 8) (S c : Int) (i : Int) :
    ∀ e j k, j + e = y.length → laws_FnPlaces.l2 (k + e) m b x y S c i (decide (i ∈ y.take j)) (j : Int) = laws_FnPlaces.l2 k m b x y S c i (decide (i ∈ y)) (y.length : Int) := by
  intro e
  induction e with
  | zero =>
    intro j k hd
    have : j = y.length := by omega
    subst this
    rw [List.take_length]
    rfl
  | succ e ih =>
    intro j k hd
    have hj : j < y.length := by omega
    have hstep : decide (i ∈ y.take (j + 1)) = (decide (i ∈ y.take j) || decide (y[j] = i)) := by
      have hm : i ∈ y.take (j + 1) ↔ (i ∈ y.take j ∨ y[j] = i) := by
        rw [List.take_succ_eq_append_getElem hj, List.mem_append, List.mem_singleton]
        exact or_congr Iff.rfl eq_comm
      rw [decide_eq_decide.2 hm]
      exact Bool.decide_or _ _
    have e2 := ih (j + 1) k (by omega)
    rw [show ((j + 1 : Nat) : Int) = (j : Int) + 1 from by omega, hstep] at e2
    rw [show k + (e + 1) = (k + e) + 1 from by omega]
    conv => lhs; rw [laws_FnPlaces.l2]
    rw [if_pos (show (j : Int) < (y.length : Int) by omega), wrap_of (x := (j : Int) + 1) (by omega) (by omega)]
    by_cases h1 : i ∈ y.take j
    · rw [decide_eq_true h1] at e2 ⊢
      rw [if_pos rfl]
      rw [Bool.true_or] at e2
      exact e2
    · rw [decide_eq_false h1] at e2 ⊢
      rw [if_neg (by simp), if_pos (by omega), rd_get hj]
      rw [Bool.false_or] at e2
      rw [← e2]
      congr 1
theorem alive_walk (m : List S84) (b : List Bool) (x : List S84) (y : List Int) (S c : Int) (i : Nat) (hi : i < x.length) (hx : x.length ≤ 8) (p : List Int) (hp : x[i].f0 = p) (hp3 : p.length ≤ 3) (ha : ∀ v ∈ p, Al b v) :
    ∀ e j k, j + e = p.length → laws_FnPlaces.l3 (k + e + 1) m b x y S c (i : Int) (j : Int) = laws_FnPlaces.l1 k m b x y S c ((i + 1 : Nat) : Int) := by
  intro e
  induction e with
  | zero =>
    intro j k hd
    rw [laws_FnPlaces.l3, if_pos (by omega), if_pos (by omega), rdP_get hi, hp, if_neg (by omega), wrap_of (x := (i : Int) + 1) (by omega) (by omega)]
    rfl
  | succ e ih =>
    intro j k hd
    have hj : j < p.length := by omega
    obtain ⟨a1, a2, a3⟩ := ha _ (List.getElem_mem hj)
    rw [show k + (e + 1) + 1 = (k + e + 1) + 1 from by omega]
    conv => lhs; rw [laws_FnPlaces.l3]
    rw [if_pos (by omega), if_pos (by omega), rdP_get hi, hp, if_pos (by omega), if_pos (by omega), rd_get hj, if_neg (by omega), if_pos a1, if_pos a2, if_pos a3, wrap_of (x := (j : Int) + 1) (by omega) (by omega)]
    exact ih (j + 1) k (by omega)
theorem backups_len (x : List S84) (hx : okPl x = true) (i : Nat) (hi : i < x.length) (K : Nat) (hK : 200 < K) : ∃ t : List Int, impl_Backups.f K x (i : Int) = some t ∧ t.length + 1 = x[i].f0.length := by
  obtain ⟨h1, h2⟩ := of_okPl hx
  have hr := (h2 _ (List.getElem_mem hi)).2.2
  refine ⟨x[i].f0.drop 1, ?_, by rw [List.length_drop]; omega⟩
  unfold impl_Backups.f
  rw [impl_places x (by omega) K (by omega), Option.bind_some, hx, if_pos rfl]
  simp only [impl_Place.f, Option.bind_some, within_]
  rw [wrap_of (by omega) (by omega), if_pos (by simp; omega), if_pos (by omega), if_pos (by omega), rdP_get hi, if_pos (by omega)]
  simp only [slices_Clone_int64_int64.f, Option.bind_some, List.length_nil, List.nil_append, List.length_drop]
  rw [if_pos (by omega)]
  rfl
theorem rounds_ok (m : List S84) (b : List Bool) (hb : b.length ≤ 8) (hm : okPl m = true) : ∀ d i k c, i + d = m.length → c + (gones b (m.drop i) i).length = (gones b m 0).length → 300 + 100 * d < k →
    laws_FnPlaces.l1 k m b (m.map (rem1 b)) (gones b m 0) ((nal b : Nat) : Int) ((c : Nat) : Int) (i : Int) = some true := by
  obtain ⟨h6, hR⟩ := of_okPl hm
  have hxl : (m.map (rem1 b)).length = m.length := List.length_map ..
  have hxR : ∀ p ∈ m.map (rem1 b), Rp p.f0 := fun p hp => by
    obtain ⟨q, hq, rfl⟩ := List.mem_map.1 hp
    exact rem1_rp hb (hR q hq)
  have hok : okPl (m.map (rem1 b)) = true := okPl_of (by omega) hxR
  have hgl : ∀ (l : List S84) j, (gones b l j).length ≤ l.length := by
    intro l
    induction l with
    | nil => intro j; simp [gones]
    | cons p l ih =>
      intro j
      have := ih (j + 1)
      simp only [gones]
      split
      · simp only [List.length_cons]; omega
      · simp only [List.length_cons]; omega
  have hyl := hgl m 0
  intro d
  induction d with
  | zero =>
    intro i k c hd hc hk
    obtain ⟨k, rfl⟩ : ∃ z, k = z + 1 := ⟨k - 1, by omega⟩
    rw [List.drop_of_length_le (by omega)] at hc
    simp only [gones, List.length_nil, Nat.add_zero] at hc
    rw [laws_FnPlaces.l1, if_neg (by omega), if_pos (by omega)]
    unfold impl_PlacesOk.f
    rw [impl_places _ (by omega) k (by omega), hok]
    rfl
  | succ d ih =>
    intro i k c hd hc hk
    have hi : i < m.length := by omega
    have hix : i < (m.map (rem1 b)).length := by omega
    obtain ⟨k, rfl⟩ : ∃ z, k = z + 1 + (gones b m 0).length + 1 := ⟨k - (gones b m 0).length - 2, by omega⟩
    rw [List.drop_eq_getElem_cons hi] at hc
    simp only [gones] at hc
    have hmem : (i : Int) ∈ gones b m 0 ↔ gone1 b m[i] = true := by
      rw [gones_mem]
      constructor
      · rintro ⟨j, hj, e, hg⟩
        have : j = i := by omega
        subst this
        exact hg
      · intro hg
        exact ⟨i, hi, by omega, hg⟩
    have hxi : (m.map (rem1 b))[i] = rem1 b m[i] := by simp
    have hw := gone_walk m b (m.map (rem1 b)) (gones b m 0) (by omega) ((nal b : Nat) : Int) ((c : Nat) : Int) (i : Int) (gones b m 0).length 0 (k + 1) (by omega)
    rw [List.take_zero, show decide ((i : Int) ∈ ([] : List Int)) = false from rfl, show ((0 : Nat) : Int) = 0 from rfl] at hw
    rw [laws_FnPlaces.l1, if_pos (by omega), hw, laws_FnPlaces.l2, if_neg (by omega)]
    have hxR1 := hxR _ (List.getElem_mem hix)
    by_cases hg : gone1 b m[i] = true
    · rw [if_pos hg] at hc
      simp only [List.length_cons] at hc
      rw [decide_eq_true (hmem.2 hg), if_pos rfl, if_pos (by omega), if_pos (by omega), if_pos (by omega), rdP_get hix, rdP_get hi, hxi, rem1_gone hg]
      have h3 := (hR _ (List.getElem_mem hi)).2.2
      rw [likeInts_ok _ (by unfold maxLen; omega) k (by omega), Option.bind_some, if_pos rfl, wrap_of (x := (c : Int) + 1) (by omega) (by omega), wrap_of (x := (i : Int) + 1) (by omega) (by omega)]
      exact ih (i + 1) k (c + 1) (by omega) (by omega) (by omega)
    · have hg' : gone1 b m[i] = false := by simpa using hg
      rw [if_neg hg] at hc
      rw [decide_eq_false (fun h => hg (hmem.1 h)), if_neg (by simp)]
      obtain ⟨hf, hf1⟩ := rem1_stays (hR _ (List.getElem_mem hi)) hg'
      have hlen := fi_len b _ hf
      obtain ⟨t, ht, htl⟩ := backups_len (m.map (rem1 b)) hok i hix (k - 1) (by omega)
      have htl' : t.length + 1 = (rem1 b m[i]).f0.length := by rw [← hxi]; exact htl
      have h5 : ∀ W : Int, W = ((rem1 b m[i]).f0.length : Int) → laws_FnPlaces.j5 k m b (m.map (rem1 b)) (gones b m 0) ((nal b : Nat) : Int) ((c : Nat) : Int) (i : Int) W = some true := by
        intro W hW
        have hl3 := hf.2.2.1
        obtain ⟨q, rfl⟩ : ∃ q, k = q + 1 + 1 + (rem1 b m[i]).f0.length + 1 := ⟨k - (rem1 b m[i]).f0.length - 3, by omega⟩
        rw [laws_FnPlaces.j5, if_pos (by omega), if_pos (by omega), rdP_get hix, hxi, if_pos (by omega)]
        rw [show q + 1 + 1 + (rem1 b m[i]).f0.length + 1 - 1 = q + 1 + 1 + (rem1 b m[i]).f0.length from by omega] at ht
        rw [ht, Option.bind_some, wrap_of (by omega) (by omega)]
        have hne : ((t.length : Int) != W - 1) = false := by
          rw [show (t.length : Int) = W - 1 from by omega]
          exact bne_self_eq_false _
        rw [hne, show q + 1 + 1 + (rem1 b m[i]).f0.length = (q + (rem1 b m[i]).f0.length + 1) + 1 from by omega, laws_FnPlaces.j6, if_neg (by simp)]
        have hal := alive_walk m b (m.map (rem1 b)) (gones b m 0) ((nal b : Nat) : Int) ((c : Nat) : Int) i hix (by omega) (rem1 b m[i]).f0 (by rw [hxi]) hf.2.2.1 hf.2.1 (rem1 b m[i]).f0.length 0 q (by omega)
        rw [show ((0 : Nat) : Int) = 0 from rfl] at hal
        rw [hal]
        exact ih (i + 1) q c (by omega) (by omega) (by omega)
      by_cases h3 : ((nal b : Nat) : Int) > 3
      · rw [if_pos h3]
        exact h5 3 (by omega)
      · rw [if_neg h3]
        exact h5 _ (by omega)
theorem FnPlaces : SFnPlaces.Pure := by
  intro l hl _
  obtain ⟨K, hK⟩ : ∃ K, l.length + 5000 < K := ⟨_, Nat.lt_succ_self _⟩
  refine ⟨K + 1 + 1, ?_⟩
  unfold laws_FnPlaces.f
  rw [show laws_big.f l = some (decide ((l.length : Int) > 4096)) from rfl, Option.bind_some]
  by_cases h : (l.length : Int) > 4096
  · rw [if_pos (decide_eq_true h)]
  rw [if_neg (by simpa using h)]
  obtain ⟨⟨m, b⟩, e1, hm, hb⟩ := drawRemap_ok l hl (K + 1 + 1) (by omega)
  simp only at hm hb
  rw [e1, Option.bind_some]
  show ((impl_Remap.f (K + 1 + 1) m b).bind _) = _
  have key : ∀ x y, spec_Remap.f (K + 1 + 1) m b = some (x, y) → impl_Remap.f (K + 1 + 1) m b = some (x, y) → x.length ≤ 7 → (∀ p ∈ x, p.f0.length ≤ 3) → y.length ≤ 7 → laws_FnPlaces.j1 (K + 1) m b x y false = some true →
      ((impl_Remap.f (K + 1 + 1) m b).bind fun bt339 => ((spec_Remap.f (K + 1 + 1) m b).bind fun bt345 => ((laws_likePlaces.f (K + 1 + 1) bt339.1 bt345.1).bind fun t351 => (if t351 = true then ((laws_likeInts.f (K + 1 + 1) bt339.2 bt345.2).bind fun t352 => (laws_FnPlaces.j0 (K + 1 + 1) l m b bt339.1 bt339.2 (!t352))) else none)))) = some true := by
    intro x y s1 s2 hx hx3 hy hj
    rw [s2, Option.bind_some, s1, Option.bind_some]
    show ((laws_likePlaces.f (K + 1 + 1) x x).bind _) = _
    rw [likePl_ok x (by omega) hx3 (K + 1 + 1) (by omega), Option.bind_some, if_pos rfl]
    show ((laws_likeInts.f (K + 1 + 1) y y).bind _) = _
    rw [likeInts_ok y (by unfold maxLen; omega) (K + 1 + 1) (by omega), Option.bind_some]
    show laws_FnPlaces.j0 (K + 1 + 1) l m b x y (!true) = some true
    rw [laws_FnPlaces.j0, if_neg (by simp)]
    obtain ⟨⟨r, n⟩, e2, _⟩ := drawSpread_ok l hl (K + 1) (by omega)
    rw [e2, Option.bind_some]
    show ((impl_Spread.f (K + 1) r n).bind _) = _
    rcases spreads r n (K + 1) (by omega) with ⟨s, p1, p2, p3, p4⟩ | ⟨p1, p2⟩
    · obtain ⟨g6, gR⟩ := of_okPl p3
      rw [p2, Option.bind_some, p1, Option.bind_some]
      show (if (true != true) = true then _ else ((laws_likePlaces.f (K + 1) s s).bind _)) = _
      rw [if_neg (by simp), likePl_ok s (by omega) (fun p hp => (gR p hp).2.2.2) (K + 1) (by omega), Option.bind_some, if_pos rfl]
      show (if true = true then ((impl_PlacesOk.f (K + 1) s).bind fun t364 => (if t364 = true then ((impl_Primary.f (K + 1) s 0).bind fun t365 => (laws_FnPlaces.j1 (K + 1) m b x y (t365 != 0))) else none)) else _) = _
      have q1 : impl_PlacesOk.f (K + 1) s = some true := by unfold impl_PlacesOk.f; rw [impl_places s (by omega) (K + 1) (by omega), p3]; rfl
      have g0 : 0 < s.length := by omega
      have h1 := (gR _ (List.getElem_mem g0)).2.2
      have q0 : rd_T84 s 0 = s[0] := rdP_get (i := 0) g0
      have q2 : impl_Primary.f (K + 1) s 0 = some 0 := by
        unfold impl_Primary.f
        rw [impl_places s (by omega) (K + 1) (by omega), Option.bind_some, p3, if_pos rfl]
        simp only [impl_Place.f, Option.bind_some, within_]
        rw [wrap_of (by omega) (by omega), if_pos (by simp; omega), if_pos (by omega), if_pos (by omega), p4, q0, if_pos (by omega)]
      rw [if_pos rfl, q1, Option.bind_some, if_pos rfl, q2, Option.bind_some]
      exact hj
    · rw [p2, Option.bind_some, p1, Option.bind_some]
      show (if (false != false) = true then _ else ((laws_likePlaces.f (K + 1) [] []).bind _)) = _
      rw [if_neg (by simp), likePl_ok [] (by simp) (by simp) (K + 1) (by simp; omega), Option.bind_some, if_pos rfl]
      show (if false = true then _ else laws_FnPlaces.j1 (K + 1) m b x y false) = _
      rw [if_neg (by simp)]
      exact hj
  have hI := impl_places m (by omega) K (by omega)
  rcases remaps m b hm (K + 1 + 1) (by omega) with ⟨ho, h8, s1, s2⟩ | ⟨ho, s1, s2⟩
  · obtain ⟨h6, hR⟩ := of_okPl ho
    have hgl : ∀ (l : List S84) j, (gones b l j).length ≤ l.length := by
      intro l
      induction l with
      | nil => intro j; simp [gones]
      | cons p l ih =>
        intro j
        have := ih (j + 1)
        simp only [gones]
        split
        · simp only [List.length_cons]; omega
        · simp only [List.length_cons]; omega
    refine key _ _ s1 s2 (by simp; omega) (fun p hp => ?_) (Nat.le_trans (hgl m 0) hm) ?_
    · obtain ⟨q, hq, rfl⟩ := List.mem_map.1 hp
      exact (rem1_rp h8 (hR q hq)).2.2.2
    · rw [laws_FnPlaces.j1, if_neg (by simp), if_neg (by rw [List.length_map]; omega)]
      have := count_ok m b h8 (m.map (rem1 b)) (gones b m 0) (some true) 2000 (fun k hk => by
        have := rounds_ok m b h8 ho m.length 0 k 0 (by omega) (by simp) (by omega)
        simpa using this) b.length 0 K 0 (by omega) (by simp [nal]) (by omega)
      simpa using this
  · refine key [] [] s1 s2 (by simp) (by simp) (by simp) ?_
    rw [laws_FnPlaces.j1, if_neg (by simp), if_pos (by simp)]
    unfold impl_PlacesOk.f
    rw [hI, Option.bind_some, Option.bind_some]
    by_cases hp : okPl m = true
    · rw [if_pos hp, decide_eq_true (show (b.length : Int) > 8 by have := ho hp; omega)]
    · rw [if_neg hp]
end Go.Proofs.Ytgdfbjmjgegicaa.Pure
