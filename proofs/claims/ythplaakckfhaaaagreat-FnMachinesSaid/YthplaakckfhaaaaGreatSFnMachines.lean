/- What is left of the law FnMachines as a statement over numbers and lists, and that the readings of its arguments show such. No conditions. -/
import Derived.Test.YthplaakckfhaaaaGreatXMs23
import Derived.Test.YthplaakckfhaaaaGreatOpenMs
import Derived.KernelRfl
namespace Go.Proofs.YthplaakckfhaaaaGreat.SFnMachines
open Go.RowKit Go.Proofs.YthplaakckfhaaaaGreat.XMs Go.Proofs.YthplaakckfhaaaaGreat.Opened Go.Proofs.YthplaakckfhaaaaGreatW.PrintWords Go.Proofs.YthplaakckfhaaaaGreatW.PrintLast
/-- The pure statement. -/
def Pure : Prop := ∀ (l0 : List Int), l0.length ≤ maxLen → (∀ x ∈ l0, (Lit.int .u8 x).wf = true) → laws_FnMachines.f l0 = some true
end Go.Proofs.YthplaakckfhaaaaGreat.SFnMachines
