/- Proved: at every argument the program's SetOk returns what the reference's returns, and the law's function answers true. Conditions: none beyond the given row's. -/
import Derived.Test.YtmpdflbopbiliaaSFnExactSetOk
namespace Go.Proofs.Ytmpdflbopbiliaa.Pure
open Go.RowKit Go.Proofs.Ytmpdflbopbiliaa.PFnExactSetOk Go.Proofs.Ytmpdflbopbiliaa.Opened Go.Proofs.YtmpdflbopbiliaaW.PrintWords Go.Proofs.YtmpdflbopbiliaaW.PrintLast Go.Proofs.Ytmpdflbopbiliaa.SFnExactSetOk
theorem in_ (a b c : Int) : spec_l1In.f a b c = some (decide (b ≤ a ∧ a ≤ c)) := by
  unfold spec_l1In.f
  by_cases h : a ≥ b <;> simp [h]
theorem within_ (a b c : Int) : impl_within.f a b c = some (decide (b ≤ a ∧ a ≤ c)) := by
  unfold impl_within.f
  by_cases h : a ≥ b <;> simp [h]
theorem FnExactSetOk : SFnExactSetOk.Pure := by
  intro a b c d e _ _ _ _
  by_cases h1 : (0 ≤ a ∧ a ≤ 5) <;> by_cases h2 : (0 ≤ b ∧ b ≤ 5) <;> by_cases h3 : (-1000000000 ≤ c ∧ c ≤ 1000000000) <;>
    simp [laws_FnExactSetOk.f, laws_toSet.f, spec_SetOk.f, spec_l1Region.f, spec_l1Slot.f, spec_l1Value.f, impl_SetOk.f, impl_isSet.f, impl_isRegion.f, impl_isSlot.f, impl_isValue.f, in_, within_, h1, h2, h3]
end Go.Proofs.Ytmpdflbopbiliaa.Pure
