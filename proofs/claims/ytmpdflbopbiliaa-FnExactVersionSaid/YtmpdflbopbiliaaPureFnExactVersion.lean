/- Proved: at every argument the program's Version returns what the reference's returns, and the law's function answers true. Conditions: none beyond the given row's. -/
import Derived.Test.YtmpdflbopbiliaaPFnExactVersionx1
namespace Go.Proofs.Ytmpdflbopbiliaa.Pure
open Go.RowKit Go.Proofs.Ytmpdflbopbiliaa.PFnExactVersion Go.Proofs.YtmpdflbopbiliaaW.PrintWords Go.Proofs.YtmpdflbopbiliaaW.PrintLast
theorem FnExactVersion : laws_FnExactVersion.Pure := by
  intro a _
  have e : impl_Version.f a = spec_Version.f a := rfl
  unfold laws_FnExactVersion.f
  rw [e]
  by_cases h : a ≥ 0
  · by_cases h1 : a ≤ 4000003 <;> simp [spec_Version.f, spec_HeadOk.f, spec_l1In.f, h, h1]
  · simp [spec_Version.f, spec_HeadOk.f, spec_l1In.f, h]
end Go.Proofs.Ytmpdflbopbiliaa.Pure
