/- What is left of the law FnFreeSlots as a statement over numbers and lists, and that the readings of its arguments show such. No conditions. -/
import Derived.Test.YtgdfbjmjgegicaaXFs3
import Derived.Test.YtgdfbjmjgegicaaOpen
import Derived.KernelRfl
namespace Go.Proofs.Ytgdfbjmjgegicaa.SFnFreeSlots
open Go.RowKit Go.Proofs.Ytgdfbjmjgegicaa.XFs Go.Proofs.Ytgdfbjmjgegicaa.Opened Go.Proofs.YtgdfbjmjgegicaaW.PrintWords Go.Proofs.YtgdfbjmjgegicaaW.PrintLast
/-- The pure statement. -/
def Pure : Prop := ∀ (l0 : List Int), l0.length ≤ maxLen → (∀ x ∈ l0, (Lit.int .u8 x).wf = true) → ∃ k, laws_FnFreeSlots.f k l0 = some true
end Go.Proofs.Ytgdfbjmjgegicaa.SFnFreeSlots
