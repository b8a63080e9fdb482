/- What is left of the law FnRecords as a statement over numbers and lists, and that the readings of its arguments show such. No conditions. -/
import Derived.Test.YtnilfnkdgdfnnaaGreatDoorXRe18
import Derived.Test.YtnilfnkdgdfnnaaGreatDoorOpenRe
import Derived.KernelRfl
namespace Go.Proofs.YtnilfnkdgdfnnaaGreatDoor.SFnRecords
open Go.RowKit Go.Proofs.YtnilfnkdgdfnnaaGreatDoor.XRe Go.Proofs.YtnilfnkdgdfnnaaGreatDoor.Opened Go.Proofs.YtnilfnkdgdfnnaaGreatDoorW.PrintWords Go.Proofs.YtnilfnkdgdfnnaaGreatDoorW.PrintLast
/-- The pure statement. -/
def Pure : Prop := ∀ (l0 : List Int), l0.length ≤ maxLen → (∀ x ∈ l0, (Lit.int .u8 x).wf = true) → ∃ k, laws_FnRecords.f k l0 = some true
end Go.Proofs.YtnilfnkdgdfnnaaGreatDoor.SFnRecords
