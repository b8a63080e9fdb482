/- Proved: at every argument the program's Next returns what the reference's returns, and the law's function answers true. Conditions: none beyond the given row's. -/
import Derived.Test.YtmpdflbopbiliaaPFnExactNextx1
namespace Go.Proofs.Ytmpdflbopbiliaa.Pure
open Go.RowKit Go.Proofs.Ytmpdflbopbiliaa.PFnExactNext Go.Proofs.YtmpdflbopbiliaaW.PrintWords Go.Proofs.YtmpdflbopbiliaaW.PrintLast
theorem FnExactNext : laws_FnExactNext.Pure := by
  intro a u _
  by_cases h : a ≥ 0
  · by_cases h1 : a ≤ 4000003
    · by_cases h2 : wrap64 (Int.tdiv a 4) = 1000000 <;> cases u <;> simp [laws_FnExactNext.f, spec_Next.f, impl_Next.f, spec_HeadOk.f, impl_isHead.f, spec_l1Head.f, impl_pack.f, spec_l1In.f, impl_within.f, h, h1, h2]
    · simp [laws_FnExactNext.f, spec_Next.f, impl_Next.f, spec_HeadOk.f, impl_isHead.f, spec_l1In.f, impl_within.f, h, h1]
  · simp [laws_FnExactNext.f, spec_Next.f, impl_Next.f, spec_HeadOk.f, impl_isHead.f, spec_l1In.f, impl_within.f, h]
end Go.Proofs.Ytmpdflbopbiliaa.Pure
