/- Proved: at every argument the program's Ends returns what the reference's returns, and the law's function answers true. Conditions: none beyond the given row's. -/
import Derived.Test.YtmpdflbopbiliaaSFnExactEnds
namespace Go.Proofs.Ytmpdflbopbiliaa.Pure
open Go.RowKit Go.Proofs.Ytmpdflbopbiliaa.PFnExactEnds Go.Proofs.Ytmpdflbopbiliaa.Opened Go.Proofs.YtmpdflbopbiliaaW.PrintWords Go.Proofs.YtmpdflbopbiliaaW.PrintLast Go.Proofs.Ytmpdflbopbiliaa.SFnExactEnds
theorem in_ (a b c : Int) : spec_l1In.f a b c = some (decide (b ≤ a ∧ a ≤ c)) := by
  unfold spec_l1In.f
  by_cases h : a ≥ b <;> simp [h]
theorem within_ (a b c : Int) : impl_within.f a b c = some (decide (b ≤ a ∧ a ≤ c)) := by
  unfold impl_within.f
  by_cases h : a ≥ b <;> simp [h]
def okl (a b c : Int) : Prop := (0 ≤ a ∧ a ≤ 7) ∧ (0 ≤ b ∧ b ≤ 1000000000000) ∧ (1 ≤ c ∧ c ≤ 1000000000000)
instance (a b c : Int) : Decidable (okl a b c) := by unfold okl; exact inferInstance
theorem spec_lease (a b c : Int) : spec_LeaseOk.f a b c = some (decide (okl a b c)) := by
  simp only [spec_LeaseOk.f, spec_l1Machine.f, spec_l4Time.f, in_, Option.bind_some, okl]
  by_cases h1 : (0 ≤ a ∧ a ≤ 7) <;> by_cases h2 : (0 ≤ b ∧ b ≤ 1000000000000) <;> simp [h1, h2]
theorem impl_lease (a b c : Int) : impl_isLease.f a b c = some (decide (okl a b c)) := by
  simp only [impl_isLease.f, impl_isMachine.f, within_, Option.bind_some, okl]
  by_cases h1 : (0 ≤ a ∧ a ≤ 7) <;> by_cases h2 : (0 ≤ b ∧ b ≤ 1000000000000) <;> simp [h1, h2]
theorem FnExactEnds : SFnExactEnds.Pure := by
  intro a b c _ _ _
  by_cases h : okl a b c <;> simp [laws_FnExactEnds.f, laws_toLease.f, spec_Ends.f, impl_Ends.f, spec_lease, impl_lease, h]
end Go.Proofs.Ytmpdflbopbiliaa.Pure
