/- What is left of the law FnExactSpread as a statement over numbers and lists, and that the readings of its arguments show such. No conditions. -/
import Derived.Test.YtodgacnioeoogaaXBk5
import Derived.Test.YtodgacnioeoogaaOpenBk
import Derived.KernelRfl
namespace Go.Proofs.Ytodgacnioeoogaa.SFnExactSpread
open Go.RowKit Go.Proofs.Ytodgacnioeoogaa.XBk Go.Proofs.Ytodgacnioeoogaa.Opened Go.Proofs.YtodgacnioeoogaaW.PrintWords Go.Proofs.YtodgacnioeoogaaW.PrintLast
/-- The pure statement. -/
def Pure : Prop := ∀ (a0 : Int) (a1 : Int), (Lit.int .i64 a0).wf = true → (Lit.int .i64 a1).wf = true → ∃ k, laws_FnExactSpread.f k a0 a1 = some true
end Go.Proofs.Ytodgacnioeoogaa.SFnExactSpread
