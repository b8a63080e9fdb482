/- Proved: the law FnDrifts answers true at every argument: the program answers as the reference, wherever the law's own guards let the argument in. Conditions: none beyond the given row's. -/
import Derived.Test.YtodgacnioeoogaaSFnDrifts
import Derived.Test.YtodgacnioeoogaaGen
namespace Go.Proofs.Ytodgacnioeoogaa.Pure
open Go.RowKit Go.Proofs.Ytodgacnioeoogaa.XHe Go.Proofs.Ytodgacnioeoogaa.Opened Go.Proofs.YtodgacnioeoogaaW.PrintWords Go.Proofs.YtodgacnioeoogaaW.PrintLast Go.Proofs.Ytodgacnioeoogaa.SFnDrifts Go.Proofs.Ytodgacnioeoogaa.Gen
theorem in_ (a b c : Int) : spec_l1In.f a b c = some (decide (b ≤ a ∧ a ≤ c)) := by
  unfold spec_l1In.f
  by_cases h : a ≥ b <;> simp [h]
theorem within_ (a b c : Int) : impl_within.f a b c = some (decide (b ≤ a ∧ a ≤ c)) := by
  unfold impl_within.f
  by_cases h : a ≥ b <;> simp [h]
def okl (a b c : Int) : Prop := (0 ≤ a ∧ a ≤ 7) ∧ (0 ≤ b ∧ b ≤ 1000000000000) ∧ (1 ≤ c ∧ c ≤ 1000000000000)
instance (a b c : Int) : Decidable (okl a b c) := by unfold okl; exact inferInstance
theorem spec_lease (a b c : Int) : spec_LeaseOk.f a b c = some (decide (okl a b c)) := by
  simp only [spec_LeaseOk.f, spec_l1Machine.f, spec_l4Time.f, in_, Option.bind_some, okl]
  by_cases h1 : (0 ≤ a ∧ a ≤ 7) <;> by_cases h2 : (0 ≤ b ∧ b ≤ 1000000000000) <;> simp [h1, h2]
theorem impl_lease (a b c : Int) : impl_isLease.f a b c = some (decide (okl a b c)) := by
  simp only [impl_isLease.f, impl_isMachine.f, within_, Option.bind_some, okl]
  by_cases h1 : (0 ≤ a ∧ a ≤ 7) <;> by_cases h2 : (0 ≤ b ∧ b ≤ 1000000000000) <;> simp [h1, h2]
def told (a b c n d : Int) : Prop := okl a b c ∧ (0 ≤ n ∧ n ≤ 1000000000000) ∧ b ≤ n ∧ (0 ≤ d ∧ d ≤ 100000)
instance (a b c n d : Int) : Decidable (told a b c n d) := by unfold told; exact inferInstance
theorem spec_told (a b c n d : Int) : spec_l4Told.f a b c n d = some (decide (told a b c n d)) := by
  simp only [spec_l4Told.f, spec_lease, spec_l4Time.f, in_, Option.bind_some, told]
  by_cases h1 : okl a b c <;> by_cases h2 : (0 ≤ n ∧ n ≤ 1000000000000) <;> by_cases h3 : b ≤ n <;> simp [h1, h2, h3]
theorem mul_bd {x y X Y : Int} (h0 : -X ≤ x) (h1 : x ≤ X) (h2 : 0 ≤ y) (h3 : y ≤ Y) (hX : 0 ≤ X) : -(X * Y) ≤ x * y ∧ x * y ≤ X * Y := by
  have a1 : x * y ≤ X * y := Int.mul_le_mul_of_nonneg_right h1 h2
  have a2 : X * y ≤ X * Y := Int.mul_le_mul_of_nonneg_left h3 hX
  have a3 : -X * y ≤ x * y := Int.mul_le_mul_of_nonneg_right h0 h2
  rw [Int.neg_mul] at a3
  omega
theorem spec_safe (a b c n d : Int) : spec_Safe.f a b c n d = some (decide (told a b c n d ∧ (n - b) * (1000000 + d) ≤ c * (1000000 - d))) := by
  simp only [spec_Safe.f, spec_told, Option.bind_some]
  by_cases h : told a b c n d
  · obtain ⟨⟨h0, h1, h2⟩, h3, h4, h5⟩ := id h
    have m1 := mul_bd (x := n - b) (y := 1000000 + d) (X := 1000000000000) (Y := 1100000) (by omega) (by omega) (by omega) (by omega) (by omega)
    have m2 := mul_bd (x := c) (y := 1000000 - d) (X := 1000000000000) (Y := 1100000) (by omega) (by omega) (by omega) (by omega) (by omega)
    rw [wrap_of (x := n - b) (by omega) (by omega), wrap_of (x := 1000000 + d) (by omega) (by omega), wrap_of (x := 1000000 - d) (by omega) (by omega), wrap_of (x := (n - b) * (1000000 + d)) (by omega) (by omega), wrap_of (x := c * (1000000 - d)) (by omega) (by omega)]
    simp [h]
  · simp [h]
theorem impl_safe (a b c n d : Int) : impl_Safe.f a b c n d = some (decide (told a b c n d ∧ (n - b) * (1000000 + d) ≤ c * (1000000 - d))) := by
  rw [← spec_safe]
  simp only [spec_Safe.f, impl_Safe.f, spec_told, impl_lease, within_, Option.bind_some]
  by_cases h : told a b c n d
  · obtain ⟨h1, h2, h3, h4⟩ := id h
    have h5 : b ≤ n ∧ n ≤ 1000000000000 := ⟨h3, h2.2⟩
    simp [h, h1, h4, h5]
  · by_cases h1 : okl a b c
    · by_cases h4 : (0 ≤ d ∧ d ≤ 100000)
      · have h5 : ¬ (b ≤ n ∧ n ≤ 1000000000000) := fun h5 => h ⟨h1, ⟨by have := h1.2.1.1; omega, h5.2⟩, h5.1, h4⟩
        simp [h, h1, h4, h5]
      · simp [h, h1, h4]
    · simp [h, h1]
theorem impl_dead (a b c n d : Int) : impl_Dead.f a b c n d = some (decide (told a b c n d ∧ (n - b) * (1000000 - d) > c * (1000000 + d))) := by
  simp only [impl_Dead.f, impl_lease, within_, Option.bind_some]
  by_cases h1 : okl a b c
  · by_cases h4 : (0 ≤ d ∧ d ≤ 100000)
    · by_cases h5 : (0 ≤ n ∧ n ≤ 1000000000000)
      · obtain ⟨_, hb, hc⟩ := id h1
        have m1 := mul_bd (x := n - b) (y := 1000000 - d) (X := 1000000000000) (Y := 1100000) (by omega) (by omega) (by omega) (by omega) (by omega)
        have m2 := mul_bd (x := c) (y := 1000000 + d) (X := 1000000000000) (Y := 1100000) (by omega) (by omega) (by omega) (by omega) (by omega)
        have e4 : wrap64 ((n - b) * (1000000 - d)) = (n - b) * (1000000 - d) := wrap_of (by omega) (by omega)
        have e5 : wrap64 (c * (1000000 + d)) = c * (1000000 + d) := wrap_of (by omega) (by omega)
        rw [wrap_of (x := n - b) (by omega) (by omega), wrap_of (x := 1000000 - d) (by omega) (by omega), wrap_of (x := 1000000 + d) (by omega) (by omega), e4, e5]
        by_cases h6 : b ≤ n
        · have ht : told a b c n d := ⟨h1, h5, h6, h4⟩
          simp [h1, h4, h5, ht]
        · have ht : ¬ told a b c n d := fun ht => h6 ht.2.2.1
          have m3 : (n - b) * (1000000 - d) ≤ 0 := Int.mul_nonpos_of_nonpos_of_nonneg (by omega) (by omega)
          have m4 : 0 ≤ c * (1000000 + d) := Int.mul_nonneg (by omega) (by omega)
          have m5 : ¬ (c * (1000000 + d) < (n - b) * (1000000 - d)) := by omega
          simp [h1, h4, h5, ht, m5]
      · have ht : ¬ told a b c n d := fun ht => h5 ht.2.1
        simp [h1, h4, h5, ht]
    · have ht : ¬ told a b c n d := fun ht => h4 ht.2.2.2
      simp [h1, h4, ht]
  · have ht : ¬ told a b c n d := fun ht => h1 ht.1
    simp [h1, ht]
theorem pick_ok (l : List Int) (hl : l.length ≤ 9000) (hw : ∀ x ∈ l, 0 ≤ x ∧ x ≤ 255) (n : Int) (hn : 1 ≤ n) (k : Nat) (hk : l.length < k) : Ok (fun r => 0 ≤ r ∧ r < n) (laws_pick.f k l n) := by
  unfold laws_pick.f
  obtain ⟨r, hr, e⟩ := loop_inv (fun k (s : Int × Int) => laws_pick.l0 k l n s.1 s.2) (fun i s => s.2 = (i : Int) ∧ 0 ≤ s.1 ∧ s.1 ≤ 1000003) (fun r => 0 ≤ r ∧ r < n) l.length 0
    (fun k i s _ hi hP => .inl ⟨(Int.tmod (wrap64 ((wrap64 (s.1 * 79)) + (wrap64 (rd l s.2)))) 1000003, wrap64 (s.2 + 1)), by
      obtain ⟨h1, h2, h3⟩ := hP
      have hb := rd_bound (lo := 0) (hi := 255) (by omega) (by omega) hw s.2
      refine ⟨?_, ?_⟩
      · show wrap64 (s.2 + 1) = ((i + 1 : Nat) : Int)
        rw [h1, wrap_of (by omega) (by omega)]; omega
      · show 0 ≤ Int.tmod (wrap64 ((wrap64 (s.1 * 79)) + (wrap64 (rd l s.2)))) 1000003 ∧ Int.tmod (wrap64 ((wrap64 (s.1 * 79)) + (wrap64 (rd l s.2)))) 1000003 ≤ 1000003
        rw [wrap_of (x := s.1 * 79) (by omega) (by omega), wrap_of (x := rd l s.2) (by omega) (by omega), wrap_of (by omega) (by omega), Int.tmod_eq_emod_of_nonneg (by omega)]
        omega, by
      show laws_pick.l0 (k + 1) l n s.1 s.2 = _
      have h1 := hP.1
      simp only [laws_pick.l0]
      rw [if_pos (by omega), if_pos (by omega)]⟩)
    (fun k s _ hP => ⟨Int.tmod s.1 n, by rw [Int.tmod_eq_emod_of_nonneg hP.2.1]; exact ⟨Int.emod_nonneg _ (by omega), Int.emod_lt_of_pos _ (by omega)⟩, by
      show laws_pick.l0 (k + 1) l n s.1 s.2 = _
      have h1 := hP.1
      simp only [laws_pick.l0]
      rw [if_neg (by omega), if_neg (by omega)]⟩) l.length 0 k ((l.length : Int), 0) (by omega) (by omega) ⟨rfl, by simp, by simp; omega⟩
  exact ⟨r, e, hr⟩
theorem wf_u8 {n : Int} (h : (Lit.int .u8 n).wf = true) : 0 ≤ n ∧ n ≤ 255 := by
  simp [Lit.wf, IntKind.min, IntKind.max, IntKind.signed, IntKind.bits] at h
  exact h
theorem drift_core {t d L s f : Int} (hd : 0 ≤ d) (hd' : d < 1000000) (hL : 0 ≤ L) (hs : t * (1000000 - d) < 1000000 * s) (hf : 1000000 * f ≤ t * (1000000 + d)) (h1 : s * (1000000 + d) ≤ L * (1000000 - d)) (h2 : f * (1000000 - d) > L * (1000000 + d)) : False := by
  obtain ⟨a, ha⟩ : ∃ a, a = 1000000 - d := ⟨_, rfl⟩
  obtain ⟨b, hb⟩ : ∃ b, b = 1000000 + d := ⟨_, rfl⟩
  rw [← ha] at hs h1 h2
  rw [← hb] at hf h1 h2
  have a0 : 0 < a := by omega
  have b0 : 0 < b := by omega
  have m1 : t * a * b < 1000000 * s * b := Int.mul_lt_mul_of_pos_right hs b0
  have m2 : 1000000 * f * a ≤ t * b * a := Int.mul_le_mul_of_nonneg_right hf (by omega)
  have m3 : t * b * a = t * a * b := by rw [Int.mul_assoc, Int.mul_comm b a, ← Int.mul_assoc]
  have m4 : 1000000 * s * b = 1000000 * (s * b) := Int.mul_assoc _ _ _
  have m5 : 1000000 * f * a = 1000000 * (f * a) := Int.mul_assoc _ _ _
  have m6 : L * a ≤ L * b := Int.mul_le_mul_of_nonneg_left (by omega) hL
  omega
theorem FnDrifts : SFnDrifts.Pure := by
  intro l hl hw
  have hw' : ∀ x ∈ l, 0 ≤ x ∧ x ≤ 255 := fun x hx => wf_u8 (hw x hx)
  refine ⟨l.length + 2, ?_⟩
  unfold laws_FnDrifts.f
  simp only [laws_big.f, Option.bind_some]
  by_cases hb : (l.length : Int) > 4096
  · rw [if_pos (by simpa using hb)]
  · rw [if_neg (by simpa using hb)]
    obtain ⟨d, e1, hd⟩ := pick_ok l (by omega) hw' 90000 (by omega) (l.length + 2) (by omega)
    obtain ⟨L, e2, hL⟩ := pick_ok ([1] ++ l) (by simp; omega) (fun x hx => by simp at hx; rcases hx with rfl | hx; omega; exact hw' x hx) 100000 (by omega) (l.length + 2) (by simp)
    obtain ⟨t, e3, ht⟩ := pick_ok ([2] ++ l) (by simp; omega) (fun x hx => by simp at hx; rcases hx with rfl | hx; omega; exact hw' x hx) 200000 (by omega) (l.length + 2) (by simp)
    rw [e1]
    simp only [Option.bind_some]
    rw [if_pos (by simp; omega), e2]
    simp only [Option.bind_some]
    rw [if_pos (by simp; omega), e3]
    simp only [Option.bind_some, spec_safe, impl_safe, impl_dead]
    have m1 := mul_bd (x := t) (y := 1000000 - d) (X := 200000) (Y := 1100000) (by omega) (by omega) (by omega) (by omega) (by omega)
    have m2 := mul_bd (x := t) (y := 1000000 + d) (X := 200000) (Y := 1100000) (by omega) (by omega) (by omega) (by omega) (by omega)
    have p1 : 0 ≤ t * (1000000 - d) := Int.mul_nonneg (by omega) (by omega)
    have p2 : 0 ≤ t * (1000000 + d) := Int.mul_nonneg (by omega) (by omega)
    rw [wrap_of (x := 1000 + L) (by omega) (by omega), wrap_of (x := 1000000 - d) (by omega) (by omega), wrap_of (x := 1000000 + d) (by omega) (by omega), wrap_of (x := t * (1000000 - d)) (by omega) (by omega), wrap_of (x := t * (1000000 + d)) (by omega) (by omega), Int.tdiv_eq_ediv_of_nonneg p1, Int.tdiv_eq_ediv_of_nonneg p2]
    generalize hA : t * (1000000 - d) = A at *
    generalize hB : t * (1000000 + d) = B at *
    rw [wrap_of (x := A / 1000000) (by omega) (by omega), wrap_of (x := B / 1000000) (by omega) (by omega), wrap_of (x := A / 1000000 + 1) (by omega) (by omega)]
    rw [if_neg (by simp)]
    by_cases hs : told 1 0 (1000 + L) (A / 1000000 + 1) d ∧ (A / 1000000 + 1 - 0) * (1000000 + d) ≤ (1000 + L) * (1000000 - d)
    · rw [if_pos (by simpa using hs)]
      have hn : ¬ (told 1 0 (1000 + L) (B / 1000000) d ∧ (B / 1000000 - 0) * (1000000 - d) > (1000 + L) * (1000000 + d)) := fun hn =>
        drift_core (t := t) (d := d) (L := 1000 + L) (s := A / 1000000 + 1) (f := B / 1000000) (by omega) (by omega) (by omega) (by rw [hA]; omega) (by rw [hB]; omega) (by have := hs.2; rwa [Int.sub_zero] at this) (by have := hn.2; rwa [Int.sub_zero] at this)
      rw [decide_eq_false hn]
      rfl
    · rw [if_neg (by simpa using hs)]
end Go.Proofs.Ytodgacnioeoogaa.Pure
