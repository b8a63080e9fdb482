/-
  No cell of these rows narrows 'for every input' (looked for: loops, veiled, ifaces, maps, wideKeys, modest, calm, conditions, laid).
  DERIVED. THE GIVEN ROWS OF THIS SEAT. 12 by the template 'for every input the law returns true; each argument reads behind the call as it read before'; 0 by the template 'total and deterministic' (their statements: YtodgacnioeoogaaTotals.lean).
  GIVEN WITH THE SEED: the statements are not yours to turn. If you find one false, say at which input.
  Laid BY PROGRAM, IN A SANDBOX (cutbox-rows.mjs): the forced cells as the released guide's own fill.sh prints them over the translation 8e1ce0d4c232fe36… (all of the seat's roots in one cut). By AI agents, Wed Nov 11 2026. No macro, syntax, notation, axiom, sorry.
-/
import Derived.Test.YtodgacnioeoogaaChecked
import GoSem.Claim
import GoSem.ClaimJoined
import GoSem.ClaimMapViews
import Derived.JoinedTies
import Derived.KernelRfl
namespace Go.Proofs.Ytodgacnioeoogaa
/- THE CELL 'sum', in the pinned program and in every row, IS THE sha256 OF THE DUMP (.gsa) THAT YtodgacnioeoogaaProg.lean LOADS. Nothing in Lean hashes anything: it is a label: what it is worth is what the hold of that sum in a sandbox is worth. -/
noncomputable def Try.pinned : Pinned := { name := "ytodgacnioeoogaa", sum := "8e1ce0d4c232fe363f59f553b4340485e3a773b74adb38b9f4c12504a57bf2d2", checked := Try.checked }
namespace Rows
def none {H : Type} : Left H := { results := [], args := [] }

/-- 'laws.FnExactRenew': WHATEVER THE INPUT: true; the input reads as it did. -/
def fnExactRenewSpec : ChangeSpec := { name := "fnExactRenew", fn := fun _ => fun
  | [d1, d2] => { results := [.lit (.bool true)], args := [d1, d2] }
  | _ => none }
def fnExactRenewRow : OpenClaim := { program := "ytodgacnioeoogaa", sum := "8e1ce0d4c232fe363f59f553b4340485e3a773b74adb38b9f4c12504a57bf2d2", func := "loop.example/g00153/laws.FnExactRenew", spec := "fnExactRenew", apart := false }
def FnExactRenewSaid : Prop := fnExactRenewRow.holds Try.pinned (OpenSpec.ofChange fnExactRenewSpec)

/-- ITS FALSE NEIGHBOUR: 'it returns false'. Refute it at one input. -/
def fnExactRenewWrong : ChangeSpec := { name := "fnExactRenew", fn := fun _ => fun
  | [d1, d2] => { results := [.lit (.bool false)], args := [d1, d2] }
  | _ => none }
def FnExactRenewWrongFalsely : Prop := fnExactRenewRow.holds Try.pinned (OpenSpec.ofChange fnExactRenewWrong)

/-- 'laws.FnExactNewCells': WHATEVER THE INPUT: true; the input reads as it did. -/
def fnExactNewCellsSpec : ChangeSpec := { name := "fnExactNewCells", fn := fun _ => fun
  | [] => { results := [.lit (.bool true)], args := [] }
  | _ => none }
def fnExactNewCellsRow : OpenClaim := { program := "ytodgacnioeoogaa", sum := "8e1ce0d4c232fe363f59f553b4340485e3a773b74adb38b9f4c12504a57bf2d2", func := "loop.example/g00153/laws.FnExactNewCells", spec := "fnExactNewCells", apart := false }
def FnExactNewCellsSaid : Prop := fnExactNewCellsRow.holds Try.pinned (OpenSpec.ofChange fnExactNewCellsSpec)

/-- ITS FALSE NEIGHBOUR: 'it returns false'. Refute it at one input. -/
def fnExactNewCellsWrong : ChangeSpec := { name := "fnExactNewCells", fn := fun _ => fun
  | [] => { results := [.lit (.bool false)], args := [] }
  | _ => none }
def FnExactNewCellsWrongFalsely : Prop := fnExactNewCellsRow.holds Try.pinned (OpenSpec.ofChange fnExactNewCellsWrong)

/-- 'laws.FnExactSpread': WHATEVER THE INPUT: true; the input reads as it did. -/
def fnExactSpreadSpec : ChangeSpec := { name := "fnExactSpread", fn := fun _ => fun
  | [d1, d2] => { results := [.lit (.bool true)], args := [d1, d2] }
  | _ => none }
def fnExactSpreadRow : OpenClaim := { program := "ytodgacnioeoogaa", sum := "8e1ce0d4c232fe363f59f553b4340485e3a773b74adb38b9f4c12504a57bf2d2", func := "loop.example/g00153/laws.FnExactSpread", spec := "fnExactSpread", apart := false }
def FnExactSpreadSaid : Prop := fnExactSpreadRow.holds Try.pinned (OpenSpec.ofChange fnExactSpreadSpec)

/-- ITS FALSE NEIGHBOUR: 'it returns false'. Refute it at one input. -/
def fnExactSpreadWrong : ChangeSpec := { name := "fnExactSpread", fn := fun _ => fun
  | [d1, d2] => { results := [.lit (.bool false)], args := [d1, d2] }
  | _ => none }
def FnExactSpreadWrongFalsely : Prop := fnExactSpreadRow.holds Try.pinned (OpenSpec.ofChange fnExactSpreadWrong)

/-- 'laws.FnHeads': WHATEVER THE INPUT: true; the input reads as it did. -/
def fnHeadsSpec : ChangeSpec := { name := "fnHeads", fn := fun _ => fun
  | [d] => { results := [.lit (.bool true)], args := [d] }
  | _ => none }
def fnHeadsRow : OpenClaim := { program := "ytodgacnioeoogaa", sum := "8e1ce0d4c232fe363f59f553b4340485e3a773b74adb38b9f4c12504a57bf2d2", func := "loop.example/g00153/laws.FnHeads", spec := "fnHeads", apart := false }
def FnHeadsSaid : Prop := fnHeadsRow.holds Try.pinned (OpenSpec.ofChange fnHeadsSpec)

/-- ITS FALSE NEIGHBOUR: 'it returns false'. Refute it at one input. -/
def fnHeadsWrong : ChangeSpec := { name := "fnHeads", fn := fun _ => fun
  | [d] => { results := [.lit (.bool false)], args := [d] }
  | _ => none }
def FnHeadsWrongFalsely : Prop := fnHeadsRow.holds Try.pinned (OpenSpec.ofChange fnHeadsWrong)

/-- 'laws.FnLeases': WHATEVER THE INPUT: true; the input reads as it did. -/
def fnLeasesSpec : ChangeSpec := { name := "fnLeases", fn := fun _ => fun
  | [d] => { results := [.lit (.bool true)], args := [d] }
  | _ => none }
def fnLeasesRow : OpenClaim := { program := "ytodgacnioeoogaa", sum := "8e1ce0d4c232fe363f59f553b4340485e3a773b74adb38b9f4c12504a57bf2d2", func := "loop.example/g00153/laws.FnLeases", spec := "fnLeases", apart := false }
def FnLeasesSaid : Prop := fnLeasesRow.holds Try.pinned (OpenSpec.ofChange fnLeasesSpec)

/-- ITS FALSE NEIGHBOUR: 'it returns false'. Refute it at one input. -/
def fnLeasesWrong : ChangeSpec := { name := "fnLeases", fn := fun _ => fun
  | [d] => { results := [.lit (.bool false)], args := [d] }
  | _ => none }
def FnLeasesWrongFalsely : Prop := fnLeasesRow.holds Try.pinned (OpenSpec.ofChange fnLeasesWrong)

/-- 'laws.FnDrifts': WHATEVER THE INPUT: true; the input reads as it did. -/
def fnDriftsSpec : ChangeSpec := { name := "fnDrifts", fn := fun _ => fun
  | [d] => { results := [.lit (.bool true)], args := [d] }
  | _ => none }
def fnDriftsRow : OpenClaim := { program := "ytodgacnioeoogaa", sum := "8e1ce0d4c232fe363f59f553b4340485e3a773b74adb38b9f4c12504a57bf2d2", func := "loop.example/g00153/laws.FnDrifts", spec := "fnDrifts", apart := false }
def FnDriftsSaid : Prop := fnDriftsRow.holds Try.pinned (OpenSpec.ofChange fnDriftsSpec)

/-- ITS FALSE NEIGHBOUR: 'it returns false'. Refute it at one input. -/
def fnDriftsWrong : ChangeSpec := { name := "fnDrifts", fn := fun _ => fun
  | [d] => { results := [.lit (.bool false)], args := [d] }
  | _ => none }
def FnDriftsWrongFalsely : Prop := fnDriftsRow.holds Try.pinned (OpenSpec.ofChange fnDriftsWrong)

/-- 'laws.FnExactPlacesOk': WHATEVER THE INPUT: true; the input reads as it did. -/
def fnExactPlacesOkSpec : ChangeSpec := { name := "fnExactPlacesOk", fn := fun _ => fun
  | [d] => { results := [.lit (.bool true)], args := [d] }
  | _ => none }
def fnExactPlacesOkRow : OpenClaim := { program := "ytodgacnioeoogaa", sum := "8e1ce0d4c232fe363f59f553b4340485e3a773b74adb38b9f4c12504a57bf2d2", func := "loop.example/g00153/laws.FnExactPlacesOk", spec := "fnExactPlacesOk", apart := false }
def FnExactPlacesOkSaid : Prop := fnExactPlacesOkRow.holds Try.pinned (OpenSpec.ofChange fnExactPlacesOkSpec)

/-- ITS FALSE NEIGHBOUR: 'it returns false'. Refute it at one input. -/
def fnExactPlacesOkWrong : ChangeSpec := { name := "fnExactPlacesOk", fn := fun _ => fun
  | [d] => { results := [.lit (.bool false)], args := [d] }
  | _ => none }
def FnExactPlacesOkWrongFalsely : Prop := fnExactPlacesOkRow.holds Try.pinned (OpenSpec.ofChange fnExactPlacesOkWrong)

/-- 'laws.FnExactPrimary': WHATEVER THE INPUT: true; the input reads as it did. -/
def fnExactPrimarySpec : ChangeSpec := { name := "fnExactPrimary", fn := fun _ => fun
  | [d1, d2] => { results := [.lit (.bool true)], args := [d1, d2] }
  | _ => none }
def fnExactPrimaryRow : OpenClaim := { program := "ytodgacnioeoogaa", sum := "8e1ce0d4c232fe363f59f553b4340485e3a773b74adb38b9f4c12504a57bf2d2", func := "loop.example/g00153/laws.FnExactPrimary", spec := "fnExactPrimary", apart := false }
def FnExactPrimarySaid : Prop := fnExactPrimaryRow.holds Try.pinned (OpenSpec.ofChange fnExactPrimarySpec)

/-- ITS FALSE NEIGHBOUR: 'it returns false'. Refute it at one input. -/
def fnExactPrimaryWrong : ChangeSpec := { name := "fnExactPrimary", fn := fun _ => fun
  | [d1, d2] => { results := [.lit (.bool false)], args := [d1, d2] }
  | _ => none }
def FnExactPrimaryWrongFalsely : Prop := fnExactPrimaryRow.holds Try.pinned (OpenSpec.ofChange fnExactPrimaryWrong)

/-- 'laws.FnExactBackups': WHATEVER THE INPUT: true; the input reads as it did. -/
def fnExactBackupsSpec : ChangeSpec := { name := "fnExactBackups", fn := fun _ => fun
  | [d1, d2] => { results := [.lit (.bool true)], args := [d1, d2] }
  | _ => none }
def fnExactBackupsRow : OpenClaim := { program := "ytodgacnioeoogaa", sum := "8e1ce0d4c232fe363f59f553b4340485e3a773b74adb38b9f4c12504a57bf2d2", func := "loop.example/g00153/laws.FnExactBackups", spec := "fnExactBackups", apart := false }
def FnExactBackupsSaid : Prop := fnExactBackupsRow.holds Try.pinned (OpenSpec.ofChange fnExactBackupsSpec)

/-- ITS FALSE NEIGHBOUR: 'it returns false'. Refute it at one input. -/
def fnExactBackupsWrong : ChangeSpec := { name := "fnExactBackups", fn := fun _ => fun
  | [d1, d2] => { results := [.lit (.bool false)], args := [d1, d2] }
  | _ => none }
def FnExactBackupsWrongFalsely : Prop := fnExactBackupsRow.holds Try.pinned (OpenSpec.ofChange fnExactBackupsWrong)

/-- 'laws.FnExactNewTx': WHATEVER THE INPUT: true; the input reads as it did. -/
def fnExactNewTxSpec : ChangeSpec := { name := "fnExactNewTx", fn := fun _ => fun
  | [d1, d2] => { results := [.lit (.bool true)], args := [d1, d2] }
  | _ => none }
def fnExactNewTxRow : OpenClaim := { program := "ytodgacnioeoogaa", sum := "8e1ce0d4c232fe363f59f553b4340485e3a773b74adb38b9f4c12504a57bf2d2", func := "loop.example/g00153/laws.FnExactNewTx", spec := "fnExactNewTx", apart := false }
def FnExactNewTxSaid : Prop := fnExactNewTxRow.holds Try.pinned (OpenSpec.ofChange fnExactNewTxSpec)

/-- ITS FALSE NEIGHBOUR: 'it returns false'. Refute it at one input. -/
def fnExactNewTxWrong : ChangeSpec := { name := "fnExactNewTx", fn := fun _ => fun
  | [d1, d2] => { results := [.lit (.bool false)], args := [d1, d2] }
  | _ => none }
def FnExactNewTxWrongFalsely : Prop := fnExactNewTxRow.holds Try.pinned (OpenSpec.ofChange fnExactNewTxWrong)

/-- 'laws.FnExactTxOk': WHATEVER THE INPUT: true; the input reads as it did. -/
def fnExactTxOkSpec : ChangeSpec := { name := "fnExactTxOk", fn := fun _ => fun
  | [d] => { results := [.lit (.bool true)], args := [d] }
  | _ => none }
def fnExactTxOkRow : OpenClaim := { program := "ytodgacnioeoogaa", sum := "8e1ce0d4c232fe363f59f553b4340485e3a773b74adb38b9f4c12504a57bf2d2", func := "loop.example/g00153/laws.FnExactTxOk", spec := "fnExactTxOk", apart := false }
def FnExactTxOkSaid : Prop := fnExactTxOkRow.holds Try.pinned (OpenSpec.ofChange fnExactTxOkSpec)

/-- ITS FALSE NEIGHBOUR: 'it returns false'. Refute it at one input. -/
def fnExactTxOkWrong : ChangeSpec := { name := "fnExactTxOk", fn := fun _ => fun
  | [d] => { results := [.lit (.bool false)], args := [d] }
  | _ => none }
def FnExactTxOkWrongFalsely : Prop := fnExactTxOkRow.holds Try.pinned (OpenSpec.ofChange fnExactTxOkWrong)

/-- 'laws.FnExactRemap': WHATEVER THE INPUT: true; the input reads as it did. -/
def fnExactRemapSpec : ChangeSpec := { name := "fnExactRemap", fn := fun _ => fun
  | [d1, d2] => { results := [.lit (.bool true)], args := [d1, d2] }
  | _ => none }
def fnExactRemapRow : OpenClaim := { program := "ytodgacnioeoogaa", sum := "8e1ce0d4c232fe363f59f553b4340485e3a773b74adb38b9f4c12504a57bf2d2", func := "loop.example/g00153/laws.FnExactRemap", spec := "fnExactRemap", unfollowed := true, recurses := true, apart := false }
def FnExactRemapSaid : Prop := fnExactRemapRow.holds Try.pinned (OpenSpec.ofChange fnExactRemapSpec)

/-- ITS FALSE NEIGHBOUR: 'it returns false'. Refute it at one input. -/
def fnExactRemapWrong : ChangeSpec := { name := "fnExactRemap", fn := fun _ => fun
  | [d1, d2] => { results := [.lit (.bool false)], args := [d1, d2] }
  | _ => none }
def FnExactRemapWrongFalsely : Prop := fnExactRemapRow.holds Try.pinned (OpenSpec.ofChange fnExactRemapWrong)

/- THE SECOND FORM. 'bulk': how many values and letters a reading holds, each counted each time it is reached (what is shared counts as often as it is met; a slice's spare places count too). A statement '..UptoSaid' is the law's where the arguments, and the package variables that the reading takes, are together of bulk at most 1048576: NARROWER than '..Said'. Prove '..Said' where nothing that the law and all that it calls make is longer than what came in: it says more and counts as full. Else prove '..UptoSaid'. A law counts once. -/
mutual
def uptoBulk {H : Type} : DataW H → Nat
  | .lit (.string bytes) => bytes.length + 1
  | .lit _ => 1
  | .nil => 1
  | .ptr d => uptoBulk d + 1
  | .slice elems spare => uptoBulkAll elems + uptoBulkAll spare + 1
  | .agg parts => uptoBulkAll parts + 1
  | .iface _ d => uptoBulk d + 1
  | .map entries => uptoBulkEntries entries + 1
  | .held _ => 1
def uptoBulkAll {H : Type} : List (DataW H) → Nat
  | [] => 0
  | d :: r => uptoBulk d + uptoBulkAll r
def uptoBulkEntries {H : Type} : List (Lit × DataW H) → Nat
  | [] => 0
  | x :: r => uptoBulkEntry x + uptoBulkEntries r
def uptoBulkEntry {H : Type} : Lit × DataW H → Nat
  | (.string bytes, d) => bytes.length + uptoBulk d + 1
  | (_, d) => uptoBulk d + 1
 end
def uptoSmall : (H : Type) → List (DataW H) → Bool := fun _ ds => decide (uptoBulkAll ds ≤ 1048576)
def OpenSpec.upto (s : _root_.Go.ChangeSpec) : _root_.Go.OpenSpec := { _root_.Go.OpenSpec.ofChange s with cond := some uptoSmall }

/-- 'laws.FnExactRenew', WHERE WHAT IT READS IS OF BULK AT MOST 1048576: true; the input reads as it did. -/
def fnExactRenewUptoRow : OpenClaim := { program := "ytodgacnioeoogaa", sum := "8e1ce0d4c232fe363f59f553b4340485e3a773b74adb38b9f4c12504a57bf2d2", func := "loop.example/g00153/laws.FnExactRenew", spec := "fnExactRenew", apart := false, narrowed := true }
def FnExactRenewUptoSaid : Prop := fnExactRenewUptoRow.holds Try.pinned (OpenSpec.upto fnExactRenewSpec)

/-- 'laws.FnExactNewCells', WHERE WHAT IT READS IS OF BULK AT MOST 1048576: true; the input reads as it did. -/
def fnExactNewCellsUptoRow : OpenClaim := { program := "ytodgacnioeoogaa", sum := "8e1ce0d4c232fe363f59f553b4340485e3a773b74adb38b9f4c12504a57bf2d2", func := "loop.example/g00153/laws.FnExactNewCells", spec := "fnExactNewCells", apart := false, narrowed := true }
def FnExactNewCellsUptoSaid : Prop := fnExactNewCellsUptoRow.holds Try.pinned (OpenSpec.upto fnExactNewCellsSpec)

/-- 'laws.FnExactSpread', WHERE WHAT IT READS IS OF BULK AT MOST 1048576: true; the input reads as it did. -/
def fnExactSpreadUptoRow : OpenClaim := { program := "ytodgacnioeoogaa", sum := "8e1ce0d4c232fe363f59f553b4340485e3a773b74adb38b9f4c12504a57bf2d2", func := "loop.example/g00153/laws.FnExactSpread", spec := "fnExactSpread", apart := false, narrowed := true }
def FnExactSpreadUptoSaid : Prop := fnExactSpreadUptoRow.holds Try.pinned (OpenSpec.upto fnExactSpreadSpec)

/-- 'laws.FnHeads', WHERE WHAT IT READS IS OF BULK AT MOST 1048576: true; the input reads as it did. -/
def fnHeadsUptoRow : OpenClaim := { program := "ytodgacnioeoogaa", sum := "8e1ce0d4c232fe363f59f553b4340485e3a773b74adb38b9f4c12504a57bf2d2", func := "loop.example/g00153/laws.FnHeads", spec := "fnHeads", apart := false, narrowed := true }
def FnHeadsUptoSaid : Prop := fnHeadsUptoRow.holds Try.pinned (OpenSpec.upto fnHeadsSpec)

/-- 'laws.FnLeases', WHERE WHAT IT READS IS OF BULK AT MOST 1048576: true; the input reads as it did. -/
def fnLeasesUptoRow : OpenClaim := { program := "ytodgacnioeoogaa", sum := "8e1ce0d4c232fe363f59f553b4340485e3a773b74adb38b9f4c12504a57bf2d2", func := "loop.example/g00153/laws.FnLeases", spec := "fnLeases", apart := false, narrowed := true }
def FnLeasesUptoSaid : Prop := fnLeasesUptoRow.holds Try.pinned (OpenSpec.upto fnLeasesSpec)

/-- 'laws.FnDrifts', WHERE WHAT IT READS IS OF BULK AT MOST 1048576: true; the input reads as it did. -/
def fnDriftsUptoRow : OpenClaim := { program := "ytodgacnioeoogaa", sum := "8e1ce0d4c232fe363f59f553b4340485e3a773b74adb38b9f4c12504a57bf2d2", func := "loop.example/g00153/laws.FnDrifts", spec := "fnDrifts", apart := false, narrowed := true }
def FnDriftsUptoSaid : Prop := fnDriftsUptoRow.holds Try.pinned (OpenSpec.upto fnDriftsSpec)

/-- 'laws.FnExactPlacesOk', WHERE WHAT IT READS IS OF BULK AT MOST 1048576: true; the input reads as it did. -/
def fnExactPlacesOkUptoRow : OpenClaim := { program := "ytodgacnioeoogaa", sum := "8e1ce0d4c232fe363f59f553b4340485e3a773b74adb38b9f4c12504a57bf2d2", func := "loop.example/g00153/laws.FnExactPlacesOk", spec := "fnExactPlacesOk", apart := false, narrowed := true }
def FnExactPlacesOkUptoSaid : Prop := fnExactPlacesOkUptoRow.holds Try.pinned (OpenSpec.upto fnExactPlacesOkSpec)

/-- 'laws.FnExactPrimary', WHERE WHAT IT READS IS OF BULK AT MOST 1048576: true; the input reads as it did. -/
def fnExactPrimaryUptoRow : OpenClaim := { program := "ytodgacnioeoogaa", sum := "8e1ce0d4c232fe363f59f553b4340485e3a773b74adb38b9f4c12504a57bf2d2", func := "loop.example/g00153/laws.FnExactPrimary", spec := "fnExactPrimary", apart := false, narrowed := true }
def FnExactPrimaryUptoSaid : Prop := fnExactPrimaryUptoRow.holds Try.pinned (OpenSpec.upto fnExactPrimarySpec)

/-- 'laws.FnExactBackups', WHERE WHAT IT READS IS OF BULK AT MOST 1048576: true; the input reads as it did. -/
def fnExactBackupsUptoRow : OpenClaim := { program := "ytodgacnioeoogaa", sum := "8e1ce0d4c232fe363f59f553b4340485e3a773b74adb38b9f4c12504a57bf2d2", func := "loop.example/g00153/laws.FnExactBackups", spec := "fnExactBackups", apart := false, narrowed := true }
def FnExactBackupsUptoSaid : Prop := fnExactBackupsUptoRow.holds Try.pinned (OpenSpec.upto fnExactBackupsSpec)

/-- 'laws.FnExactNewTx', WHERE WHAT IT READS IS OF BULK AT MOST 1048576: true; the input reads as it did. -/
def fnExactNewTxUptoRow : OpenClaim := { program := "ytodgacnioeoogaa", sum := "8e1ce0d4c232fe363f59f553b4340485e3a773b74adb38b9f4c12504a57bf2d2", func := "loop.example/g00153/laws.FnExactNewTx", spec := "fnExactNewTx", apart := false, narrowed := true }
def FnExactNewTxUptoSaid : Prop := fnExactNewTxUptoRow.holds Try.pinned (OpenSpec.upto fnExactNewTxSpec)

/-- 'laws.FnExactTxOk', WHERE WHAT IT READS IS OF BULK AT MOST 1048576: true; the input reads as it did. -/
def fnExactTxOkUptoRow : OpenClaim := { program := "ytodgacnioeoogaa", sum := "8e1ce0d4c232fe363f59f553b4340485e3a773b74adb38b9f4c12504a57bf2d2", func := "loop.example/g00153/laws.FnExactTxOk", spec := "fnExactTxOk", apart := false, narrowed := true }
def FnExactTxOkUptoSaid : Prop := fnExactTxOkUptoRow.holds Try.pinned (OpenSpec.upto fnExactTxOkSpec)

/-- 'laws.FnExactRemap', WHERE WHAT IT READS IS OF BULK AT MOST 1048576: true; the input reads as it did. -/
def fnExactRemapUptoRow : OpenClaim := { program := "ytodgacnioeoogaa", sum := "8e1ce0d4c232fe363f59f553b4340485e3a773b74adb38b9f4c12504a57bf2d2", func := "loop.example/g00153/laws.FnExactRemap", spec := "fnExactRemap", unfollowed := true, recurses := true, apart := false, narrowed := true }
def FnExactRemapUptoSaid : Prop := fnExactRemapUptoRow.holds Try.pinned (OpenSpec.upto fnExactRemapSpec)

end Rows
end Go.Proofs.Ytodgacnioeoogaa
