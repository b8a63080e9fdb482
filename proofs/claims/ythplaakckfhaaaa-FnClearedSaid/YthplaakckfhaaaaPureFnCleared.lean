/- Proved: the law FnCleared answers true at every argument: the program answers as the reference, wherever the law's own guards let the argument in. Conditions: none beyond the given row's. -/
import Derived.Test.YthplaakckfhaaaaSFnCleared
import Derived.Test.YthplaakckfhaaaaGenCd
namespace Go.Proofs.Ythplaakckfhaaaa.Pure
open Go.RowKit Go.Proofs.Ythplaakckfhaaaa.XCd Go.Proofs.Ythplaakckfhaaaa.Opened Go.Proofs.YthplaakckfhaaaaW.PrintWords Go.Proofs.YthplaakckfhaaaaW.PrintLast Go.Proofs.Ythplaakckfhaaaa.SFnCleared Go.Proofs.Ythplaakckfhaaaa.Gen
set_option linter.unusedSimpArgs false
set_option linter.unusedVariables false
open Go.Proofs.Ythplaakckfhaaaa.Aid
theorem FnCleared : SFnCleared.Pure := by
  intro l0 _ _
  rfl
end Go.Proofs.Ythplaakckfhaaaa.Pure
