/- What is left of the law FnLeases as a statement over numbers and lists, and that the readings of its arguments show such. No conditions. -/
import Derived.Test.YtodgacnioeoogaaXLe4
import Derived.Test.YtodgacnioeoogaaOpen
import Derived.KernelRfl
namespace Go.Proofs.Ytodgacnioeoogaa.SFnLeases
open Go.RowKit Go.Proofs.Ytodgacnioeoogaa.XLe Go.Proofs.Ytodgacnioeoogaa.Opened Go.Proofs.YtodgacnioeoogaaW.PrintWords Go.Proofs.YtodgacnioeoogaaW.PrintLast
/-- The pure statement. -/
def Pure : Prop := ∀ (l0 : List Int), l0.length ≤ maxLen → (∀ x ∈ l0, (Lit.int .u8 x).wf = true) → ∃ k, laws_FnLeases.f k l0 = some true
end Go.Proofs.Ytodgacnioeoogaa.SFnLeases
