/- Proved: at every argument the program's Pack returns what the reference's returns, and the law's function answers true. Conditions: none beyond the given row's. -/
import Derived.Test.YtmpdflbopbiliaaPFnExactPackx1
namespace Go.Proofs.Ytmpdflbopbiliaa.Pure
open Go.RowKit Go.Proofs.Ytmpdflbopbiliaa.PFnExactPack Go.Proofs.YtmpdflbopbiliaaW.PrintWords Go.Proofs.YtmpdflbopbiliaaW.PrintLast
theorem FnExactPack : laws_FnExactPack.Pure := by
  intro a u l _
  by_cases h : a ≥ 0
  · by_cases h1 : a ≤ 1000000 <;> cases u <;> cases l <;> simp [laws_FnExactPack.f, spec_Pack.f, impl_Pack.f, spec_l1Version.f, spec_l1Head.f, impl_pack.f, spec_l1In.f, impl_within.f, h, h1]
  · simp [laws_FnExactPack.f, spec_Pack.f, impl_Pack.f, spec_l1Version.f, spec_l1In.f, impl_within.f, h]
end Go.Proofs.Ytmpdflbopbiliaa.Pure
