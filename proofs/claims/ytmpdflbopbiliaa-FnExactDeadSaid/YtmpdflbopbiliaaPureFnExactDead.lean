/- Proved: at every argument the program's Dead returns what the reference's returns, and the law's function answers true. Conditions: none beyond the given row's. -/
import Derived.Test.YtmpdflbopbiliaaSFnExactDead
namespace Go.Proofs.Ytmpdflbopbiliaa.Pure
open Go.RowKit Go.Proofs.Ytmpdflbopbiliaa.PFnExactDead Go.Proofs.Ytmpdflbopbiliaa.Opened Go.Proofs.YtmpdflbopbiliaaW.PrintWords Go.Proofs.YtmpdflbopbiliaaW.PrintLast Go.Proofs.Ytmpdflbopbiliaa.SFnExactDead
theorem in_ (a b c : Int) : spec_l1In.f a b c = some (decide (b ≤ a ∧ a ≤ c)) := by
  unfold spec_l1In.f
  by_cases h : a ≥ b <;> simp [h]
theorem within_ (a b c : Int) : impl_within.f a b c = some (decide (b ≤ a ∧ a ≤ c)) := by
  unfold impl_within.f
  by_cases h : a ≥ b <;> simp [h]
def okl (a b c : Int) : Prop := (0 ≤ a ∧ a ≤ 7) ∧ (0 ≤ b ∧ b ≤ 1000000000000) ∧ (1 ≤ c ∧ c ≤ 1000000000000)
instance (a b c : Int) : Decidable (okl a b c) := by unfold okl; exact inferInstance
theorem spec_lease (a b c : Int) : spec_LeaseOk.f a b c = some (decide (okl a b c)) := by
  simp only [spec_LeaseOk.f, spec_l1Machine.f, spec_l4Time.f, in_, Option.bind_some, okl]
  by_cases h1 : (0 ≤ a ∧ a ≤ 7) <;> by_cases h2 : (0 ≤ b ∧ b ≤ 1000000000000) <;> simp [h1, h2]
theorem impl_lease (a b c : Int) : impl_isLease.f a b c = some (decide (okl a b c)) := by
  simp only [impl_isLease.f, impl_isMachine.f, within_, Option.bind_some, okl]
  by_cases h1 : (0 ≤ a ∧ a ≤ 7) <;> by_cases h2 : (0 ≤ b ∧ b ≤ 1000000000000) <;> simp [h1, h2]
def told (a b c n d : Int) : Prop := okl a b c ∧ (0 ≤ n ∧ n ≤ 1000000000000) ∧ b ≤ n ∧ (0 ≤ d ∧ d ≤ 100000)
instance (a b c n d : Int) : Decidable (told a b c n d) := by unfold told; exact inferInstance
theorem spec_told (a b c n d : Int) : spec_l4Told.f a b c n d = some (decide (told a b c n d)) := by
  simp only [spec_l4Told.f, spec_lease, spec_l4Time.f, in_, Option.bind_some, told]
  by_cases h1 : okl a b c <;> by_cases h2 : (0 ≤ n ∧ n ≤ 1000000000000) <;> by_cases h3 : b ≤ n <;> simp [h1, h2, h3]
theorem mul_bd {x y X Y : Int} (h0 : -X ≤ x) (h1 : x ≤ X) (h2 : 0 ≤ y) (h3 : y ≤ Y) (hX : 0 ≤ X) : -(X * Y) ≤ x * y ∧ x * y ≤ X * Y := by
  have a1 : x * y ≤ X * y := Int.mul_le_mul_of_nonneg_right h1 h2
  have a2 : X * y ≤ X * Y := Int.mul_le_mul_of_nonneg_left h3 hX
  have a3 : -X * y ≤ x * y := Int.mul_le_mul_of_nonneg_right h0 h2
  rw [Int.neg_mul] at a3
  omega
theorem wrap_of {x : Int} (h0 : -9223372036854775808 ≤ x) (h1 : x ≤ 9223372036854775807) : wrap64 x = x := by unfold wrap64; omega
theorem FnExactDead : SFnExactDead.Pure := by
  intro a b c n d _ _ _ _ _
  simp only [laws_FnExactDead.f, laws_toLease.f, spec_Dead.f, impl_Dead.f, spec_told, impl_lease, within_, Option.bind_some]
  by_cases h : told a b c n d
  · obtain ⟨h1, h2, h3, h4⟩ := id h
    simp [h, h1, h4, h2]
  · by_cases h1 : okl a b c
    · by_cases h4 : (0 ≤ d ∧ d ≤ 100000)
      · by_cases h5 : (0 ≤ n ∧ n ≤ 1000000000000)
        · have h6 : n < b := by
            rcases (by omega : n < b ∨ b ≤ n) with h6 | h6
            · exact h6
            · exact absurd ⟨h1, h5, h6, h4⟩ h
          obtain ⟨_, hb, hc⟩ := id h1
          have e1 : wrap64 (n - b) = n - b := wrap_of (by omega) (by omega)
          have e2 : wrap64 (1000000 - d) = 1000000 - d := wrap_of (by omega) (by omega)
          have e3 : wrap64 (1000000 + d) = 1000000 + d := wrap_of (by omega) (by omega)
          have m1 := mul_bd (x := n - b) (y := 1000000 - d) (X := 1000000000000) (Y := 1100000) (by omega) (by omega) (by omega) (by omega) (by omega)
          have m2 := mul_bd (x := c) (y := 1000000 + d) (X := 1000000000000) (Y := 1100000) (by omega) (by omega) (by omega) (by omega) (by omega)
          have m3 : (n - b) * (1000000 - d) ≤ 0 := Int.mul_nonpos_of_nonpos_of_nonneg (by omega) (by omega)
          have m4 : 0 ≤ c * (1000000 + d) := Int.mul_nonneg (by omega) (by omega)
          have e4 : wrap64 ((n - b) * (1000000 - d)) = (n - b) * (1000000 - d) := wrap_of (by omega) (by omega)
          have e5 : wrap64 (c * (1000000 + d)) = c * (1000000 + d) := wrap_of (by omega) (by omega)
          have e6 : ¬ ((n - b) * (1000000 - d) > c * (1000000 + d)) := by omega
          rw [e1, e2, e3, e4, e5]
          simp [h, h1, h4, h5]
          omega
        · simp [h, h1, h4, h5]
      · simp [h, h1, h4]
    · simp [h, h1]
end Go.Proofs.Ytmpdflbopbiliaa.Pure
