/- Proved: at every argument the program's Safe returns what the reference's returns, and the law's function answers true. Conditions: none beyond the given row's. -/
import Derived.Test.YtmpdflbopbiliaaSFnExactSafe
namespace Go.Proofs.Ytmpdflbopbiliaa.Pure
open Go.RowKit Go.Proofs.Ytmpdflbopbiliaa.PFnExactSafe Go.Proofs.Ytmpdflbopbiliaa.Opened Go.Proofs.YtmpdflbopbiliaaW.PrintWords Go.Proofs.YtmpdflbopbiliaaW.PrintLast Go.Proofs.Ytmpdflbopbiliaa.SFnExactSafe
theorem in_ (a b c : Int) : spec_l1In.f a b c = some (decide (b ≤ a ∧ a ≤ c)) := by
  unfold spec_l1In.f
  by_cases h : a ≥ b <;> simp [h]
theorem within_ (a b c : Int) : impl_within.f a b c = some (decide (b ≤ a ∧ a ≤ c)) := by
  unfold impl_within.f
  by_cases h : a ≥ b <;> simp [h]
def okl (a b c : Int) : Prop := (0 ≤ a ∧ a ≤ 7) ∧ (0 ≤ b ∧ b ≤ 1000000000000) ∧ (1 ≤ c ∧ c ≤ 1000000000000)
instance (a b c : Int) : Decidable (okl a b c) := by unfold okl; exact inferInstance
theorem spec_lease (a b c : Int) : spec_LeaseOk.f a b c = some (decide (okl a b c)) := by
  simp only [spec_LeaseOk.f, spec_l1Machine.f, spec_l4Time.f, in_, Option.bind_some, okl]
  by_cases h1 : (0 ≤ a ∧ a ≤ 7) <;> by_cases h2 : (0 ≤ b ∧ b ≤ 1000000000000) <;> simp [h1, h2]
theorem impl_lease (a b c : Int) : impl_isLease.f a b c = some (decide (okl a b c)) := by
  simp only [impl_isLease.f, impl_isMachine.f, within_, Option.bind_some, okl]
  by_cases h1 : (0 ≤ a ∧ a ≤ 7) <;> by_cases h2 : (0 ≤ b ∧ b ≤ 1000000000000) <;> simp [h1, h2]
def told (a b c n d : Int) : Prop := okl a b c ∧ (0 ≤ n ∧ n ≤ 1000000000000) ∧ b ≤ n ∧ (0 ≤ d ∧ d ≤ 100000)
instance (a b c n d : Int) : Decidable (told a b c n d) := by unfold told; exact inferInstance
theorem spec_told (a b c n d : Int) : spec_l4Told.f a b c n d = some (decide (told a b c n d)) := by
  simp only [spec_l4Told.f, spec_lease, spec_l4Time.f, in_, Option.bind_some, told]
  by_cases h1 : okl a b c <;> by_cases h2 : (0 ≤ n ∧ n ≤ 1000000000000) <;> by_cases h3 : b ≤ n <;> simp [h1, h2, h3]
theorem FnExactSafe : SFnExactSafe.Pure := by
  intro a b c n d _ _ _ _ _
  simp only [laws_FnExactSafe.f, laws_toLease.f, spec_Safe.f, impl_Safe.f, spec_told, impl_lease, within_, Option.bind_some]
  by_cases h : told a b c n d
  · obtain ⟨h1, h2, h3, h4⟩ := id h
    have h5 : b ≤ n ∧ n ≤ 1000000000000 := ⟨h3, h2.2⟩
    simp [h, h1, h4, h5]
  · by_cases h1 : okl a b c
    · by_cases h4 : (0 ≤ d ∧ d ≤ 100000)
      · have h5 : ¬ (b ≤ n ∧ n ≤ 1000000000000) := fun h5 => h ⟨h1, ⟨by have := h1.2.1.1; omega, h5.2⟩, h5.1, h4⟩
        simp [h, h1, h4, h5]
      · simp [h, h1, h4]
    · simp [h, h1]
end Go.Proofs.Ytmpdflbopbiliaa.Pure
