/- Proved: at every argument the program's HeadOk returns what the reference's returns, and the law's function answers true. Conditions: none beyond the given row's. -/
import Derived.Test.YtmpdflbopbiliaaPFnExactHeadOkx1
namespace Go.Proofs.Ytmpdflbopbiliaa.Pure
open Go.RowKit Go.Proofs.Ytmpdflbopbiliaa.PFnExactHeadOk Go.Proofs.YtmpdflbopbiliaaW.PrintWords Go.Proofs.YtmpdflbopbiliaaW.PrintLast
theorem FnExactHeadOk : laws_FnExactHeadOk.Pure := by
  intro a _
  by_cases h : a ≥ 0 <;> simp [laws_FnExactHeadOk.f, spec_HeadOk.f, impl_HeadOk.f, impl_isHead.f, spec_l1In.f, impl_within.f, h]
end Go.Proofs.Ytmpdflbopbiliaa.Pure
