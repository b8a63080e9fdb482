/- What is left of the law FnExactReadRecord as a statement over numbers and lists, and that the readings of its arguments show such. No conditions. -/
import Derived.Test.YtnilfnkdgdfnnaaDoorXRd15
import Derived.Test.YtnilfnkdgdfnnaaDoorOpenRd
import Derived.KernelRfl
namespace Go.Proofs.YtnilfnkdgdfnnaaDoor.SFnExactReadRecord
open Go.RowKit Go.Proofs.YtnilfnkdgdfnnaaDoor.XRd Go.Proofs.YtnilfnkdgdfnnaaDoor.Opened Go.Proofs.YtnilfnkdgdfnnaaDoorW.PrintWords Go.Proofs.YtnilfnkdgdfnnaaDoorW.PrintLast
/-- The pure statement. -/
def Pure : Prop := ∀ (a0 : ByteArray), a0.size ≤ maxLen → ∃ k, laws_FnExactReadRecord.f k a0 = some true
end Go.Proofs.YtnilfnkdgdfnnaaDoor.SFnExactReadRecord
