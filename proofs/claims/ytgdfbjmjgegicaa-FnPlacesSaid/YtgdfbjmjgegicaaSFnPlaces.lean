/- What is left of the law FnPlaces as a statement over numbers and lists, and that the readings of its arguments show such. No conditions. -/
import Derived.Test.YtgdfbjmjgegicaaXPs9
import Derived.Test.YtgdfbjmjgegicaaOpenPs
import Derived.KernelRfl
namespace Go.Proofs.Ytgdfbjmjgegicaa.SFnPlaces
open Go.RowKit Go.Proofs.Ytgdfbjmjgegicaa.XPs Go.Proofs.Ytgdfbjmjgegicaa.Opened Go.Proofs.YtgdfbjmjgegicaaW.PrintWords Go.Proofs.YtgdfbjmjgegicaaW.PrintLast
/-- The pure statement. -/
def Pure : Prop := ∀ (l0 : List Int), l0.length ≤ maxLen → (∀ x ∈ l0, (Lit.int .u8 x).wf = true) → ∃ k, laws_FnPlaces.f k l0 = some true
end Go.Proofs.Ytgdfbjmjgegicaa.SFnPlaces
