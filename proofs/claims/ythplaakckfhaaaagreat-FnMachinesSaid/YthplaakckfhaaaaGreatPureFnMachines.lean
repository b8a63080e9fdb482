/- Proved: the law FnMachines answers true at every argument: the program answers as the reference, wherever the law's own guards let the argument in. Conditions: none beyond the given row's. -/
import Derived.Test.YthplaakckfhaaaaGreatSFnMachines
import Derived.Test.YthplaakckfhaaaaGreatGenMs
namespace Go.Proofs.YthplaakckfhaaaaGreat.Pure
open Go.RowKit Go.Proofs.YthplaakckfhaaaaGreat.XMs Go.Proofs.YthplaakckfhaaaaGreat.Opened Go.Proofs.YthplaakckfhaaaaGreatW.PrintWords Go.Proofs.YthplaakckfhaaaaGreatW.PrintLast Go.Proofs.YthplaakckfhaaaaGreat.SFnMachines Go.Proofs.YthplaakckfhaaaaGreat.Gen
set_option linter.unusedSimpArgs false
set_option linter.unusedVariables false
open Go.Proofs.YthplaakckfhaaaaGreat.Aid
theorem FnMachines : SFnMachines.Pure := by
  intro l0 _ _
  rfl
end Go.Proofs.YthplaakckfhaaaaGreat.Pure
