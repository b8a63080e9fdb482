/- Proved: the law FnExactNewCells answers true at every argument: the program answers as the reference, wherever the law's own guards let the argument in. Conditions: none beyond the given row's. -/
import Derived.Test.YtodgacnioeoogaaPFnExactNewCellsx1
import Derived.Test.YtodgacnioeoogaaGen
namespace Go.Proofs.Ytodgacnioeoogaa.Pure
open Go.RowKit Go.Proofs.Ytodgacnioeoogaa.PFnExactNewCells Go.Proofs.YtodgacnioeoogaaW.PrintWords Go.Proofs.YtodgacnioeoogaaW.PrintLast Go.Proofs.Ytodgacnioeoogaa.Gen

theorem FnExactNewCells : laws_FnExactNewCells.Pure := by
  exact ⟨20, by decide +kernel⟩
end Go.Proofs.Ytodgacnioeoogaa.Pure
