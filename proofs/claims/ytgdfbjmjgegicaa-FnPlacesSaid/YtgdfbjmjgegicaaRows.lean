/-
  No cell of these rows narrows 'for every input' (looked for: loops, veiled, ifaces, maps, wideKeys, modest, calm, conditions, laid).
  DERIVED. THE GIVEN ROWS OF THIS SEAT. 11 by the template 'for every input the law returns true; each argument reads behind the call as it read before'; 0 by the template 'total and deterministic' (their statements: YtgdfbjmjgegicaaTotals.lean).
  GIVEN WITH THE SEED: the statements are not yours to turn. If you find one false, say at which input.
  Laid BY PROGRAM, IN A SANDBOX (cutbox-rows.mjs): the forced cells as the released guide's own fill.sh prints them over the translation d46d8c11bb459ed4… (all of the seat's roots in one cut). By AI agents, Wed Nov 11 2026. No macro, syntax, notation, axiom, sorry.
-/
import Derived.Test.YtgdfbjmjgegicaaChecked
import GoSem.Claim
import GoSem.ClaimJoined
import GoSem.ClaimMapViews
import Derived.JoinedTies
import Derived.KernelRfl
namespace Go.Proofs.Ytgdfbjmjgegicaa
/- THE CELL 'sum', in the pinned program and in every row, IS THE sha256 OF THE DUMP (.gsa) THAT YtgdfbjmjgegicaaProg.lean LOADS. Nothing in Lean hashes anything: it is a label: what it is worth is what the hold of that sum in a sandbox is worth. -/
noncomputable def Try.pinned : Pinned := { name := "ytgdfbjmjgegicaa", sum := "d46d8c11bb459ed4625ea6de839b502c9db0a02fb71e56fb60280a4d7c0df2ae", checked := Try.checked }
namespace Rows
def none {H : Type} : Left H := { results := [], args := [] }

/-- 'laws.FnExactCellsOk': WHATEVER THE INPUT: true; the input reads as it did. -/
def fnExactCellsOkSpec : ChangeSpec := { name := "fnExactCellsOk", fn := fun _ => fun
  | [d] => { results := [.lit (.bool true)], args := [d] }
  | _ => none }
def fnExactCellsOkRow : OpenClaim := { program := "ytgdfbjmjgegicaa", sum := "d46d8c11bb459ed4625ea6de839b502c9db0a02fb71e56fb60280a4d7c0df2ae", func := "loop.example/g00153/laws.FnExactCellsOk", spec := "fnExactCellsOk", unfollowed := true, recurses := true, apart := false }
def FnExactCellsOkSaid : Prop := fnExactCellsOkRow.holds Try.pinned (OpenSpec.ofChange fnExactCellsOkSpec)

/-- ITS FALSE NEIGHBOUR: 'it returns false'. Refute it at one input. -/
def fnExactCellsOkWrong : ChangeSpec := { name := "fnExactCellsOk", fn := fun _ => fun
  | [d] => { results := [.lit (.bool false)], args := [d] }
  | _ => none }
def FnExactCellsOkWrongFalsely : Prop := fnExactCellsOkRow.holds Try.pinned (OpenSpec.ofChange fnExactCellsOkWrong)

/-- 'laws.FnExactLook': WHATEVER THE INPUT: true; the input reads as it did. -/
def fnExactLookSpec : ChangeSpec := { name := "fnExactLook", fn := fun _ => fun
  | [d1, d2] => { results := [.lit (.bool true)], args := [d1, d2] }
  | _ => none }
def fnExactLookRow : OpenClaim := { program := "ytgdfbjmjgegicaa", sum := "d46d8c11bb459ed4625ea6de839b502c9db0a02fb71e56fb60280a4d7c0df2ae", func := "loop.example/g00153/laws.FnExactLook", spec := "fnExactLook", unfollowed := true, recurses := true, apart := false }
def FnExactLookSaid : Prop := fnExactLookRow.holds Try.pinned (OpenSpec.ofChange fnExactLookSpec)

/-- ITS FALSE NEIGHBOUR: 'it returns false'. Refute it at one input. -/
def fnExactLookWrong : ChangeSpec := { name := "fnExactLook", fn := fun _ => fun
  | [d1, d2] => { results := [.lit (.bool false)], args := [d1, d2] }
  | _ => none }
def FnExactLookWrongFalsely : Prop := fnExactLookRow.holds Try.pinned (OpenSpec.ofChange fnExactLookWrong)

/-- 'laws.FnExactFreeSlot': WHATEVER THE INPUT: true; the input reads as it did. -/
def fnExactFreeSlotSpec : ChangeSpec := { name := "fnExactFreeSlot", fn := fun _ => fun
  | [d1, d2] => { results := [.lit (.bool true)], args := [d1, d2] }
  | _ => none }
def fnExactFreeSlotRow : OpenClaim := { program := "ytgdfbjmjgegicaa", sum := "d46d8c11bb459ed4625ea6de839b502c9db0a02fb71e56fb60280a4d7c0df2ae", func := "loop.example/g00153/laws.FnExactFreeSlot", spec := "fnExactFreeSlot", unfollowed := true, recurses := true, apart := false }
def FnExactFreeSlotSaid : Prop := fnExactFreeSlotRow.holds Try.pinned (OpenSpec.ofChange fnExactFreeSlotSpec)

/-- ITS FALSE NEIGHBOUR: 'it returns false'. Refute it at one input. -/
def fnExactFreeSlotWrong : ChangeSpec := { name := "fnExactFreeSlot", fn := fun _ => fun
  | [d1, d2] => { results := [.lit (.bool false)], args := [d1, d2] }
  | _ => none }
def FnExactFreeSlotWrongFalsely : Prop := fnExactFreeSlotRow.holds Try.pinned (OpenSpec.ofChange fnExactFreeSlotWrong)

/-- 'laws.FnFreeSlots': WHATEVER THE INPUT: true; the input reads as it did. -/
def fnFreeSlotsSpec : ChangeSpec := { name := "fnFreeSlots", fn := fun _ => fun
  | [d] => { results := [.lit (.bool true)], args := [d] }
  | _ => none }
def fnFreeSlotsRow : OpenClaim := { program := "ytgdfbjmjgegicaa", sum := "d46d8c11bb459ed4625ea6de839b502c9db0a02fb71e56fb60280a4d7c0df2ae", func := "loop.example/g00153/laws.FnFreeSlots", spec := "fnFreeSlots", unfollowed := true, recurses := true, apart := false }
def FnFreeSlotsSaid : Prop := fnFreeSlotsRow.holds Try.pinned (OpenSpec.ofChange fnFreeSlotsSpec)

/-- ITS FALSE NEIGHBOUR: 'it returns false'. Refute it at one input. -/
def fnFreeSlotsWrong : ChangeSpec := { name := "fnFreeSlots", fn := fun _ => fun
  | [d] => { results := [.lit (.bool false)], args := [d] }
  | _ => none }
def FnFreeSlotsWrongFalsely : Prop := fnFreeSlotsRow.holds Try.pinned (OpenSpec.ofChange fnFreeSlotsWrong)

/-- 'laws.FnExactUnlock': WHATEVER THE INPUT: true; the input reads as it did. -/
def fnExactUnlockSpec : ChangeSpec := { name := "fnExactUnlock", fn := fun _ => fun
  | [d1, d2] => { results := [.lit (.bool true)], args := [d1, d2] }
  | _ => none }
def fnExactUnlockRow : OpenClaim := { program := "ytgdfbjmjgegicaa", sum := "d46d8c11bb459ed4625ea6de839b502c9db0a02fb71e56fb60280a4d7c0df2ae", func := "loop.example/g00153/laws.FnExactUnlock", spec := "fnExactUnlock", unfollowed := true, recurses := true, apart := false }
def FnExactUnlockSaid : Prop := fnExactUnlockRow.holds Try.pinned (OpenSpec.ofChange fnExactUnlockSpec)

/-- ITS FALSE NEIGHBOUR: 'it returns false'. Refute it at one input. -/
def fnExactUnlockWrong : ChangeSpec := { name := "fnExactUnlock", fn := fun _ => fun
  | [d1, d2] => { results := [.lit (.bool false)], args := [d1, d2] }
  | _ => none }
def FnExactUnlockWrongFalsely : Prop := fnExactUnlockRow.holds Try.pinned (OpenSpec.ofChange fnExactUnlockWrong)

/-- 'laws.FnExactLock': WHATEVER THE INPUT: true; the input reads as it did. -/
def fnExactLockSpec : ChangeSpec := { name := "fnExactLock", fn := fun _ => fun
  | [d1, d2] => { results := [.lit (.bool true)], args := [d1, d2] }
  | _ => none }
def fnExactLockRow : OpenClaim := { program := "ytgdfbjmjgegicaa", sum := "d46d8c11bb459ed4625ea6de839b502c9db0a02fb71e56fb60280a4d7c0df2ae", func := "loop.example/g00153/laws.FnExactLock", spec := "fnExactLock", unfollowed := true, recurses := true, apart := false }
def FnExactLockSaid : Prop := fnExactLockRow.holds Try.pinned (OpenSpec.ofChange fnExactLockSpec)

/-- ITS FALSE NEIGHBOUR: 'it returns false'. Refute it at one input. -/
def fnExactLockWrong : ChangeSpec := { name := "fnExactLock", fn := fun _ => fun
  | [d1, d2] => { results := [.lit (.bool false)], args := [d1, d2] }
  | _ => none }
def FnExactLockWrongFalsely : Prop := fnExactLockRow.holds Try.pinned (OpenSpec.ofChange fnExactLockWrong)

/-- 'laws.FnExactInstall': WHATEVER THE INPUT: true; the input reads as it did. -/
def fnExactInstallSpec : ChangeSpec := { name := "fnExactInstall", fn := fun _ => fun
  | [d1, d2] => { results := [.lit (.bool true)], args := [d1, d2] }
  | _ => none }
def fnExactInstallRow : OpenClaim := { program := "ytgdfbjmjgegicaa", sum := "d46d8c11bb459ed4625ea6de839b502c9db0a02fb71e56fb60280a4d7c0df2ae", func := "loop.example/g00153/laws.FnExactInstall", spec := "fnExactInstall", unfollowed := true, recurses := true, apart := false }
def FnExactInstallSaid : Prop := fnExactInstallRow.holds Try.pinned (OpenSpec.ofChange fnExactInstallSpec)

/-- ITS FALSE NEIGHBOUR: 'it returns false'. Refute it at one input. -/
def fnExactInstallWrong : ChangeSpec := { name := "fnExactInstall", fn := fun _ => fun
  | [d1, d2] => { results := [.lit (.bool false)], args := [d1, d2] }
  | _ => none }
def FnExactInstallWrongFalsely : Prop := fnExactInstallRow.holds Try.pinned (OpenSpec.ofChange fnExactInstallWrong)

/-- 'laws.FnLocks': WHATEVER THE INPUT: true; the input reads as it did. -/
def fnLocksSpec : ChangeSpec := { name := "fnLocks", fn := fun _ => fun
  | [d] => { results := [.lit (.bool true)], args := [d] }
  | _ => none }
def fnLocksRow : OpenClaim := { program := "ytgdfbjmjgegicaa", sum := "d46d8c11bb459ed4625ea6de839b502c9db0a02fb71e56fb60280a4d7c0df2ae", func := "loop.example/g00153/laws.FnLocks", spec := "fnLocks", unfollowed := true, recurses := true, apart := false }
def FnLocksSaid : Prop := fnLocksRow.holds Try.pinned (OpenSpec.ofChange fnLocksSpec)

/-- ITS FALSE NEIGHBOUR: 'it returns false'. Refute it at one input. -/
def fnLocksWrong : ChangeSpec := { name := "fnLocks", fn := fun _ => fun
  | [d] => { results := [.lit (.bool false)], args := [d] }
  | _ => none }
def FnLocksWrongFalsely : Prop := fnLocksRow.holds Try.pinned (OpenSpec.ofChange fnLocksWrong)

/-- 'laws.FnInstalled': WHATEVER THE INPUT: true; the input reads as it did. -/
def fnInstalledSpec : ChangeSpec := { name := "fnInstalled", fn := fun _ => fun
  | [d] => { results := [.lit (.bool true)], args := [d] }
  | _ => none }
def fnInstalledRow : OpenClaim := { program := "ytgdfbjmjgegicaa", sum := "d46d8c11bb459ed4625ea6de839b502c9db0a02fb71e56fb60280a4d7c0df2ae", func := "loop.example/g00153/laws.FnInstalled", spec := "fnInstalled", unfollowed := true, recurses := true, apart := false }
def FnInstalledSaid : Prop := fnInstalledRow.holds Try.pinned (OpenSpec.ofChange fnInstalledSpec)

/-- ITS FALSE NEIGHBOUR: 'it returns false'. Refute it at one input. -/
def fnInstalledWrong : ChangeSpec := { name := "fnInstalled", fn := fun _ => fun
  | [d] => { results := [.lit (.bool false)], args := [d] }
  | _ => none }
def FnInstalledWrongFalsely : Prop := fnInstalledRow.holds Try.pinned (OpenSpec.ofChange fnInstalledWrong)

/-- 'laws.FnExactRecordOk': WHATEVER THE INPUT: true; the input reads as it did. -/
def fnExactRecordOkSpec : ChangeSpec := { name := "fnExactRecordOk", fn := fun _ => fun
  | [d] => { results := [.lit (.bool true)], args := [d] }
  | _ => none }
def fnExactRecordOkRow : OpenClaim := { program := "ytgdfbjmjgegicaa", sum := "d46d8c11bb459ed4625ea6de839b502c9db0a02fb71e56fb60280a4d7c0df2ae", func := "loop.example/g00153/laws.FnExactRecordOk", spec := "fnExactRecordOk", unfollowed := true, recurses := true, apart := false }
def FnExactRecordOkSaid : Prop := fnExactRecordOkRow.holds Try.pinned (OpenSpec.ofChange fnExactRecordOkSpec)

/-- ITS FALSE NEIGHBOUR: 'it returns false'. Refute it at one input. -/
def fnExactRecordOkWrong : ChangeSpec := { name := "fnExactRecordOk", fn := fun _ => fun
  | [d] => { results := [.lit (.bool false)], args := [d] }
  | _ => none }
def FnExactRecordOkWrongFalsely : Prop := fnExactRecordOkRow.holds Try.pinned (OpenSpec.ofChange fnExactRecordOkWrong)

/-- 'laws.FnPlaces': WHATEVER THE INPUT: true; the input reads as it did. -/
def fnPlacesSpec : ChangeSpec := { name := "fnPlaces", fn := fun _ => fun
  | [d] => { results := [.lit (.bool true)], args := [d] }
  | _ => none }
def fnPlacesRow : OpenClaim := { program := "ytgdfbjmjgegicaa", sum := "d46d8c11bb459ed4625ea6de839b502c9db0a02fb71e56fb60280a4d7c0df2ae", func := "loop.example/g00153/laws.FnPlaces", spec := "fnPlaces", unfollowed := true, recurses := true, apart := false }
def FnPlacesSaid : Prop := fnPlacesRow.holds Try.pinned (OpenSpec.ofChange fnPlacesSpec)

/-- ITS FALSE NEIGHBOUR: 'it returns false'. Refute it at one input. -/
def fnPlacesWrong : ChangeSpec := { name := "fnPlaces", fn := fun _ => fun
  | [d] => { results := [.lit (.bool false)], args := [d] }
  | _ => none }
def FnPlacesWrongFalsely : Prop := fnPlacesRow.holds Try.pinned (OpenSpec.ofChange fnPlacesWrong)

/- THE SECOND FORM. 'bulk': how many values and letters a reading holds, each counted each time it is reached (what is shared counts as often as it is met; a slice's spare places count too). A statement '..UptoSaid' is the law's where the arguments, and the package variables that the reading takes, are together of bulk at most 1048576: NARROWER than '..Said'. Prove '..Said' where nothing that the law and all that it calls make is longer than what came in: it says more and counts as full. Else prove '..UptoSaid'. A law counts once. -/
mutual
def uptoBulk {H : Type} : DataW H → Nat
  | .lit (.string bytes) => bytes.length + 1
  | .lit _ => 1
  | .nil => 1
  | .ptr d => uptoBulk d + 1
  | .slice elems spare => uptoBulkAll elems + uptoBulkAll spare + 1
  | .agg parts => uptoBulkAll parts + 1
  | .iface _ d => uptoBulk d + 1
  | .map entries => uptoBulkEntries entries + 1
  | .held _ => 1
def uptoBulkAll {H : Type} : List (DataW H) → Nat
  | [] => 0
  | d :: r => uptoBulk d + uptoBulkAll r
def uptoBulkEntries {H : Type} : List (Lit × DataW H) → Nat
  | [] => 0
  | x :: r => uptoBulkEntry x + uptoBulkEntries r
def uptoBulkEntry {H : Type} : Lit × DataW H → Nat
  | (.string bytes, d) => bytes.length + uptoBulk d + 1
  | (_, d) => uptoBulk d + 1
 end
def uptoSmall : (H : Type) → List (DataW H) → Bool := fun _ ds => decide (uptoBulkAll ds ≤ 1048576)
def OpenSpec.upto (s : _root_.Go.ChangeSpec) : _root_.Go.OpenSpec := { _root_.Go.OpenSpec.ofChange s with cond := some uptoSmall }

/-- 'laws.FnExactCellsOk', WHERE WHAT IT READS IS OF BULK AT MOST 1048576: true; the input reads as it did. -/
def fnExactCellsOkUptoRow : OpenClaim := { program := "ytgdfbjmjgegicaa", sum := "d46d8c11bb459ed4625ea6de839b502c9db0a02fb71e56fb60280a4d7c0df2ae", func := "loop.example/g00153/laws.FnExactCellsOk", spec := "fnExactCellsOk", unfollowed := true, recurses := true, apart := false, narrowed := true }
def FnExactCellsOkUptoSaid : Prop := fnExactCellsOkUptoRow.holds Try.pinned (OpenSpec.upto fnExactCellsOkSpec)

/-- 'laws.FnExactLook', WHERE WHAT IT READS IS OF BULK AT MOST 1048576: true; the input reads as it did. -/
def fnExactLookUptoRow : OpenClaim := { program := "ytgdfbjmjgegicaa", sum := "d46d8c11bb459ed4625ea6de839b502c9db0a02fb71e56fb60280a4d7c0df2ae", func := "loop.example/g00153/laws.FnExactLook", spec := "fnExactLook", unfollowed := true, recurses := true, apart := false, narrowed := true }
def FnExactLookUptoSaid : Prop := fnExactLookUptoRow.holds Try.pinned (OpenSpec.upto fnExactLookSpec)

/-- 'laws.FnExactFreeSlot', WHERE WHAT IT READS IS OF BULK AT MOST 1048576: true; the input reads as it did. -/
def fnExactFreeSlotUptoRow : OpenClaim := { program := "ytgdfbjmjgegicaa", sum := "d46d8c11bb459ed4625ea6de839b502c9db0a02fb71e56fb60280a4d7c0df2ae", func := "loop.example/g00153/laws.FnExactFreeSlot", spec := "fnExactFreeSlot", unfollowed := true, recurses := true, apart := false, narrowed := true }
def FnExactFreeSlotUptoSaid : Prop := fnExactFreeSlotUptoRow.holds Try.pinned (OpenSpec.upto fnExactFreeSlotSpec)

/-- 'laws.FnFreeSlots', WHERE WHAT IT READS IS OF BULK AT MOST 1048576: true; the input reads as it did. -/
def fnFreeSlotsUptoRow : OpenClaim := { program := "ytgdfbjmjgegicaa", sum := "d46d8c11bb459ed4625ea6de839b502c9db0a02fb71e56fb60280a4d7c0df2ae", func := "loop.example/g00153/laws.FnFreeSlots", spec := "fnFreeSlots", unfollowed := true, recurses := true, apart := false, narrowed := true }
def FnFreeSlotsUptoSaid : Prop := fnFreeSlotsUptoRow.holds Try.pinned (OpenSpec.upto fnFreeSlotsSpec)

/-- 'laws.FnExactUnlock', WHERE WHAT IT READS IS OF BULK AT MOST 1048576: true; the input reads as it did. -/
def fnExactUnlockUptoRow : OpenClaim := { program := "ytgdfbjmjgegicaa", sum := "d46d8c11bb459ed4625ea6de839b502c9db0a02fb71e56fb60280a4d7c0df2ae", func := "loop.example/g00153/laws.FnExactUnlock", spec := "fnExactUnlock", unfollowed := true, recurses := true, apart := false, narrowed := true }
def FnExactUnlockUptoSaid : Prop := fnExactUnlockUptoRow.holds Try.pinned (OpenSpec.upto fnExactUnlockSpec)

/-- 'laws.FnExactLock', WHERE WHAT IT READS IS OF BULK AT MOST 1048576: true; the input reads as it did. -/
def fnExactLockUptoRow : OpenClaim := { program := "ytgdfbjmjgegicaa", sum := "d46d8c11bb459ed4625ea6de839b502c9db0a02fb71e56fb60280a4d7c0df2ae", func := "loop.example/g00153/laws.FnExactLock", spec := "fnExactLock", unfollowed := true, recurses := true, apart := false, narrowed := true }
def FnExactLockUptoSaid : Prop := fnExactLockUptoRow.holds Try.pinned (OpenSpec.upto fnExactLockSpec)

/-- 'laws.FnExactInstall', WHERE WHAT IT READS IS OF BULK AT MOST 1048576: true; the input reads as it did. -/
def fnExactInstallUptoRow : OpenClaim := { program := "ytgdfbjmjgegicaa", sum := "d46d8c11bb459ed4625ea6de839b502c9db0a02fb71e56fb60280a4d7c0df2ae", func := "loop.example/g00153/laws.FnExactInstall", spec := "fnExactInstall", unfollowed := true, recurses := true, apart := false, narrowed := true }
def FnExactInstallUptoSaid : Prop := fnExactInstallUptoRow.holds Try.pinned (OpenSpec.upto fnExactInstallSpec)

/-- 'laws.FnLocks', WHERE WHAT IT READS IS OF BULK AT MOST 1048576: true; the input reads as it did. -/
def fnLocksUptoRow : OpenClaim := { program := "ytgdfbjmjgegicaa", sum := "d46d8c11bb459ed4625ea6de839b502c9db0a02fb71e56fb60280a4d7c0df2ae", func := "loop.example/g00153/laws.FnLocks", spec := "fnLocks", unfollowed := true, recurses := true, apart := false, narrowed := true }
def FnLocksUptoSaid : Prop := fnLocksUptoRow.holds Try.pinned (OpenSpec.upto fnLocksSpec)

/-- 'laws.FnInstalled', WHERE WHAT IT READS IS OF BULK AT MOST 1048576: true; the input reads as it did. -/
def fnInstalledUptoRow : OpenClaim := { program := "ytgdfbjmjgegicaa", sum := "d46d8c11bb459ed4625ea6de839b502c9db0a02fb71e56fb60280a4d7c0df2ae", func := "loop.example/g00153/laws.FnInstalled", spec := "fnInstalled", unfollowed := true, recurses := true, apart := false, narrowed := true }
def FnInstalledUptoSaid : Prop := fnInstalledUptoRow.holds Try.pinned (OpenSpec.upto fnInstalledSpec)

/-- 'laws.FnExactRecordOk', WHERE WHAT IT READS IS OF BULK AT MOST 1048576: true; the input reads as it did. -/
def fnExactRecordOkUptoRow : OpenClaim := { program := "ytgdfbjmjgegicaa", sum := "d46d8c11bb459ed4625ea6de839b502c9db0a02fb71e56fb60280a4d7c0df2ae", func := "loop.example/g00153/laws.FnExactRecordOk", spec := "fnExactRecordOk", unfollowed := true, recurses := true, apart := false, narrowed := true }
def FnExactRecordOkUptoSaid : Prop := fnExactRecordOkUptoRow.holds Try.pinned (OpenSpec.upto fnExactRecordOkSpec)

/-- 'laws.FnPlaces', WHERE WHAT IT READS IS OF BULK AT MOST 1048576: true; the input reads as it did. -/
def fnPlacesUptoRow : OpenClaim := { program := "ytgdfbjmjgegicaa", sum := "d46d8c11bb459ed4625ea6de839b502c9db0a02fb71e56fb60280a4d7c0df2ae", func := "loop.example/g00153/laws.FnPlaces", spec := "fnPlaces", unfollowed := true, recurses := true, apart := false, narrowed := true }
def FnPlacesUptoSaid : Prop := fnPlacesUptoRow.holds Try.pinned (OpenSpec.upto fnPlacesSpec)

end Rows
end Go.Proofs.Ytgdfbjmjgegicaa
