/- Proved: of each Go function here that a call comes to what the Lean function of its name tells. Written by a program of this session over the translation. No conditions beyond each theorem's own. -/
import Derived.Test.YtodgacnioeoogaaProg
import Derived.Below
import Derived.Deep.Draws
import Derived.Deep.AppendLies
import Derived.Maps.AppendAt
import Derived.OwnWalk
import Derived.Laws.BytesArg
import Derived.Laws.MakeOwn
import Derived.Laws.OwnMore
import Derived.Deep.OwnRows
import Derived.Tactics
import Derived.Lib.ConvBytes
import Derived.Laws.Slices
import Derived.WalkKit
import Derived.KernelRfl
import Derived.RowKit3
import Derived.Deep.LoopGhost
import Derived.Deep.QuietTactic
import Derived.BigQuiet
import Derived.WideLaws
import Derived.Deep.DeepCutAuto
import Derived.Deep.CutBlock
import Derived.Deep.RegionHeld3
import Derived.Laws.Rows
import Derived.Lib.AppendStr
import Derived.ArgAppend
import Derived.Laws.IdiomCopy
import Derived.OrdersHeld
import Derived.Laws.BitsLemmas
import Derived.RowKit
import Derived.Test.YtodgacnioeoogaaAid
import Derived.Test.YtodgacnioeoogaaWWords
import Derived.Test.YtodgacnioeoogaaWLast
import Derived.Test.YtodgacnioeoogaaWTab
import Derived.Test.YtodgacnioeoogaaWFour
import Derived.Test.YtodgacnioeoogaaWQPut
import Derived.Test.YtodgacnioeoogaaWApart
import Derived.Test.YtodgacnioeoogaaWArr
import Derived.Test.YtodgacnioeoogaaWZeros
import Derived.Test.YtodgacnioeoogaaWFoot
import Derived.Test.YtodgacnioeoogaaWKept
import Derived.Test.YtodgacnioeoogaaWShare
import Derived.Test.YtodgacnioeoogaaWN
import Derived.Test.YtodgacnioeoogaaWFootNe
import Derived.Test.YtodgacnioeoogaaWAt
import Derived.Test.YtodgacnioeoogaaWEqStruct
import Derived.Test.YtodgacnioeoogaaWRepsOne
import Derived.Test.YtodgacnioeoogaaWInv
import Derived.Test.YtodgacnioeoogaaWInvWords
import Derived.Test.YtodgacnioeoogaaWGuard
import Derived.Test.YtodgacnioeoogaaWNEv
import Derived.Test.YtodgacnioeoogaaWMore
namespace Go.Proofs.Ytodgacnioeoogaa.XLe
open Go.RowKit Go.Proofs.YtodgacnioeoogaaW.PrintWords Go.Proofs.YtodgacnioeoogaaW.PrintLast Go.Proofs.YtodgacnioeoogaaW.PrintMore
attribute [local go_sem] max2_int min2_int max_two min_two max_three min_three max_four min_four   -- for this text's walks alone
set_option linter.unusedVariables false
set_option linter.unusedSimpArgs false



def errW : Option Int → Value
  | none => .nilIface
  | some c => .iface 0 (.int .i64 c)
theorem errW_none : errW none = .nilIface := rfl
theorem errW_some (c : Int) : errW (some c) = .iface 0 (.int .i64 c) := rfl

theorem info2 : (Try.prog.info? 2).map (fun i => (i.zero, i.size, i.bytes)) = some (some (.int .i64 0), 1, 8) := by kernel_rfl
-- the values' own types

end Go.Proofs.Ytodgacnioeoogaa.XLe
