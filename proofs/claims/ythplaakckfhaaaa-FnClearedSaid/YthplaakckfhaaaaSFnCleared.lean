/- What is left of the law FnCleared as a statement over numbers and lists, and that the readings of its arguments show such. No conditions. -/
import Derived.Test.YthplaakckfhaaaaXCd29
import Derived.Test.YthplaakckfhaaaaOpenCd
import Derived.KernelRfl
namespace Go.Proofs.Ythplaakckfhaaaa.SFnCleared
open Go.RowKit Go.Proofs.Ythplaakckfhaaaa.XCd Go.Proofs.Ythplaakckfhaaaa.Opened Go.Proofs.YthplaakckfhaaaaW.PrintWords Go.Proofs.YthplaakckfhaaaaW.PrintLast
/-- The pure statement. -/
def Pure : Prop := ∀ (l0 : List Int), l0.length ≤ maxLen → (∀ x ∈ l0, (Lit.int .u8 x).wf = true) → laws_FnCleared.f l0 = some true
end Go.Proofs.Ythplaakckfhaaaa.SFnCleared
