/- What is left of the law FnInstalled as a statement over numbers and lists, and that the readings of its arguments show such. No conditions. -/
import Derived.Test.YtgdfbjmjgegicaaXIs12
import Derived.Test.YtgdfbjmjgegicaaOpenIs
import Derived.KernelRfl
namespace Go.Proofs.Ytgdfbjmjgegicaa.SFnInstalled
open Go.RowKit Go.Proofs.Ytgdfbjmjgegicaa.XIs Go.Proofs.Ytgdfbjmjgegicaa.Opened Go.Proofs.YtgdfbjmjgegicaaW.PrintWords Go.Proofs.YtgdfbjmjgegicaaW.PrintLast
/-- The pure statement. -/
def Pure : Prop := ∀ (l0 : List Int), l0.length ≤ maxLen → (∀ x ∈ l0, (Lit.int .u8 x).wf = true) → ∃ k, laws_FnInstalled.f k l0 = some true
end Go.Proofs.Ytgdfbjmjgegicaa.SFnInstalled
