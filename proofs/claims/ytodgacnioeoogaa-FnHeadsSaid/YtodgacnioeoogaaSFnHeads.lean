/- What is left of the law FnHeads as a statement over numbers and lists, and that the readings of its arguments show such. No conditions. -/
import Derived.Test.YtodgacnioeoogaaXHe2
import Derived.Test.YtodgacnioeoogaaOpen
import Derived.KernelRfl
namespace Go.Proofs.Ytodgacnioeoogaa.SFnHeads
open Go.RowKit Go.Proofs.Ytodgacnioeoogaa.XHe Go.Proofs.Ytodgacnioeoogaa.Opened Go.Proofs.YtodgacnioeoogaaW.PrintWords Go.Proofs.YtodgacnioeoogaaW.PrintLast
/-- The pure statement. -/
def Pure : Prop := ∀ (l0 : List Int), l0.length ≤ maxLen → (∀ x ∈ l0, (Lit.int .u8 x).wf = true) → ∃ k, laws_FnHeads.f k l0 = some true
end Go.Proofs.Ytodgacnioeoogaa.SFnHeads
