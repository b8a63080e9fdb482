/-
  No cell of these rows narrows 'for every input' (looked for: loops, veiled, ifaces, maps, wideKeys, modest, calm, conditions, laid).
  DERIVED. THE GIVEN ROWS OF THIS SEAT. 12 by the template 'for every input the law returns true; each argument reads behind the call as it read before'; 0 by the template 'total and deterministic' (their statements: YtmpdflbopbiliaaTotals.lean).
  GIVEN WITH THE SEED: the statements are not yours to turn. If you find one false, say at which input.
  Laid BY PROGRAM, IN A SANDBOX (cutbox-rows.mjs): the forced cells as the released guide's own fill.sh prints them over the translation 660be14dab3ca01f… (all of the seat's roots in one cut). By AI agents, Wed Nov 11 2026. No macro, syntax, notation, axiom, sorry.
-/
import Derived.Test.YtmpdflbopbiliaaChecked
import GoSem.Claim
import GoSem.ClaimJoined
import GoSem.ClaimMapViews
import Derived.JoinedTies
import Derived.KernelRfl
namespace Go.Proofs.Ytmpdflbopbiliaa
/- THE CELL 'sum', in the pinned program and in every row, IS THE sha256 OF THE DUMP (.gsa) THAT YtmpdflbopbiliaaProg.lean LOADS. Nothing in Lean hashes anything: it is a label: what it is worth is what the hold of that sum in a sandbox is worth. -/
noncomputable def Try.pinned : Pinned := { name := "ytmpdflbopbiliaa", sum := "660be14dab3ca01fa34f5f98e24a59602326c784d0e186831f679c2da1a3d66e", checked := Try.checked }
namespace Rows
def none {H : Type} : Left H := { results := [], args := [] }

/-- 'laws.FnExactConstants': WHATEVER THE INPUT: true; the input reads as it did. -/
def fnExactConstantsSpec : ChangeSpec := { name := "fnExactConstants", fn := fun _ => fun
  | [] => { results := [.lit (.bool true)], args := [] }
  | _ => none }
def fnExactConstantsRow : OpenClaim := { program := "ytmpdflbopbiliaa", sum := "660be14dab3ca01fa34f5f98e24a59602326c784d0e186831f679c2da1a3d66e", func := "loop.example/g00153/laws.FnExactConstants", spec := "fnExactConstants", apart := false }
def FnExactConstantsSaid : Prop := fnExactConstantsRow.holds Try.pinned (OpenSpec.ofChange fnExactConstantsSpec)

/-- ITS FALSE NEIGHBOUR: 'it returns false'. Refute it at one input. -/
def fnExactConstantsWrong : ChangeSpec := { name := "fnExactConstants", fn := fun _ => fun
  | [] => { results := [.lit (.bool false)], args := [] }
  | _ => none }
def FnExactConstantsWrongFalsely : Prop := fnExactConstantsRow.holds Try.pinned (OpenSpec.ofChange fnExactConstantsWrong)

/-- 'laws.FnExactHeadOk': WHATEVER THE INPUT: true; the input reads as it did. -/
def fnExactHeadOkSpec : ChangeSpec := { name := "fnExactHeadOk", fn := fun _ => fun
  | [d] => { results := [.lit (.bool true)], args := [d] }
  | _ => none }
def fnExactHeadOkRow : OpenClaim := { program := "ytmpdflbopbiliaa", sum := "660be14dab3ca01fa34f5f98e24a59602326c784d0e186831f679c2da1a3d66e", func := "loop.example/g00153/laws.FnExactHeadOk", spec := "fnExactHeadOk", apart := false }
def FnExactHeadOkSaid : Prop := fnExactHeadOkRow.holds Try.pinned (OpenSpec.ofChange fnExactHeadOkSpec)

/-- ITS FALSE NEIGHBOUR: 'it returns false'. Refute it at one input. -/
def fnExactHeadOkWrong : ChangeSpec := { name := "fnExactHeadOk", fn := fun _ => fun
  | [d] => { results := [.lit (.bool false)], args := [d] }
  | _ => none }
def FnExactHeadOkWrongFalsely : Prop := fnExactHeadOkRow.holds Try.pinned (OpenSpec.ofChange fnExactHeadOkWrong)

/-- 'laws.FnExactLocked': WHATEVER THE INPUT: true; the input reads as it did. -/
def fnExactLockedSpec : ChangeSpec := { name := "fnExactLocked", fn := fun _ => fun
  | [d] => { results := [.lit (.bool true)], args := [d] }
  | _ => none }
def fnExactLockedRow : OpenClaim := { program := "ytmpdflbopbiliaa", sum := "660be14dab3ca01fa34f5f98e24a59602326c784d0e186831f679c2da1a3d66e", func := "loop.example/g00153/laws.FnExactLocked", spec := "fnExactLocked", apart := false }
def FnExactLockedSaid : Prop := fnExactLockedRow.holds Try.pinned (OpenSpec.ofChange fnExactLockedSpec)

/-- ITS FALSE NEIGHBOUR: 'it returns false'. Refute it at one input. -/
def fnExactLockedWrong : ChangeSpec := { name := "fnExactLocked", fn := fun _ => fun
  | [d] => { results := [.lit (.bool false)], args := [d] }
  | _ => none }
def FnExactLockedWrongFalsely : Prop := fnExactLockedRow.holds Try.pinned (OpenSpec.ofChange fnExactLockedWrong)

/-- 'laws.FnExactUsed': WHATEVER THE INPUT: true; the input reads as it did. -/
def fnExactUsedSpec : ChangeSpec := { name := "fnExactUsed", fn := fun _ => fun
  | [d] => { results := [.lit (.bool true)], args := [d] }
  | _ => none }
def fnExactUsedRow : OpenClaim := { program := "ytmpdflbopbiliaa", sum := "660be14dab3ca01fa34f5f98e24a59602326c784d0e186831f679c2da1a3d66e", func := "loop.example/g00153/laws.FnExactUsed", spec := "fnExactUsed", apart := false }
def FnExactUsedSaid : Prop := fnExactUsedRow.holds Try.pinned (OpenSpec.ofChange fnExactUsedSpec)

/-- ITS FALSE NEIGHBOUR: 'it returns false'. Refute it at one input. -/
def fnExactUsedWrong : ChangeSpec := { name := "fnExactUsed", fn := fun _ => fun
  | [d] => { results := [.lit (.bool false)], args := [d] }
  | _ => none }
def FnExactUsedWrongFalsely : Prop := fnExactUsedRow.holds Try.pinned (OpenSpec.ofChange fnExactUsedWrong)

/-- 'laws.FnExactVersion': WHATEVER THE INPUT: true; the input reads as it did. -/
def fnExactVersionSpec : ChangeSpec := { name := "fnExactVersion", fn := fun _ => fun
  | [d] => { results := [.lit (.bool true)], args := [d] }
  | _ => none }
def fnExactVersionRow : OpenClaim := { program := "ytmpdflbopbiliaa", sum := "660be14dab3ca01fa34f5f98e24a59602326c784d0e186831f679c2da1a3d66e", func := "loop.example/g00153/laws.FnExactVersion", spec := "fnExactVersion", apart := false }
def FnExactVersionSaid : Prop := fnExactVersionRow.holds Try.pinned (OpenSpec.ofChange fnExactVersionSpec)

/-- ITS FALSE NEIGHBOUR: 'it returns false'. Refute it at one input. -/
def fnExactVersionWrong : ChangeSpec := { name := "fnExactVersion", fn := fun _ => fun
  | [d] => { results := [.lit (.bool false)], args := [d] }
  | _ => none }
def FnExactVersionWrongFalsely : Prop := fnExactVersionRow.holds Try.pinned (OpenSpec.ofChange fnExactVersionWrong)

/-- 'laws.FnExactLeaseOk': WHATEVER THE INPUT: true; the input reads as it did. -/
def fnExactLeaseOkSpec : ChangeSpec := { name := "fnExactLeaseOk", fn := fun _ => fun
  | [d] => { results := [.lit (.bool true)], args := [d] }
  | _ => none }
def fnExactLeaseOkRow : OpenClaim := { program := "ytmpdflbopbiliaa", sum := "660be14dab3ca01fa34f5f98e24a59602326c784d0e186831f679c2da1a3d66e", func := "loop.example/g00153/laws.FnExactLeaseOk", spec := "fnExactLeaseOk", apart := false }
def FnExactLeaseOkSaid : Prop := fnExactLeaseOkRow.holds Try.pinned (OpenSpec.ofChange fnExactLeaseOkSpec)

/-- ITS FALSE NEIGHBOUR: 'it returns false'. Refute it at one input. -/
def fnExactLeaseOkWrong : ChangeSpec := { name := "fnExactLeaseOk", fn := fun _ => fun
  | [d] => { results := [.lit (.bool false)], args := [d] }
  | _ => none }
def FnExactLeaseOkWrongFalsely : Prop := fnExactLeaseOkRow.holds Try.pinned (OpenSpec.ofChange fnExactLeaseOkWrong)

/-- 'laws.FnExactSetOk': WHATEVER THE INPUT: true; the input reads as it did. -/
def fnExactSetOkSpec : ChangeSpec := { name := "fnExactSetOk", fn := fun _ => fun
  | [d] => { results := [.lit (.bool true)], args := [d] }
  | _ => none }
def fnExactSetOkRow : OpenClaim := { program := "ytmpdflbopbiliaa", sum := "660be14dab3ca01fa34f5f98e24a59602326c784d0e186831f679c2da1a3d66e", func := "loop.example/g00153/laws.FnExactSetOk", spec := "fnExactSetOk", apart := false }
def FnExactSetOkSaid : Prop := fnExactSetOkRow.holds Try.pinned (OpenSpec.ofChange fnExactSetOkSpec)

/-- ITS FALSE NEIGHBOUR: 'it returns false'. Refute it at one input. -/
def fnExactSetOkWrong : ChangeSpec := { name := "fnExactSetOk", fn := fun _ => fun
  | [d] => { results := [.lit (.bool false)], args := [d] }
  | _ => none }
def FnExactSetOkWrongFalsely : Prop := fnExactSetOkRow.holds Try.pinned (OpenSpec.ofChange fnExactSetOkWrong)

/-- 'laws.FnExactDead': WHATEVER THE INPUT: true; the input reads as it did. -/
def fnExactDeadSpec : ChangeSpec := { name := "fnExactDead", fn := fun _ => fun
  | [d1, d2, d3] => { results := [.lit (.bool true)], args := [d1, d2, d3] }
  | _ => none }
def fnExactDeadRow : OpenClaim := { program := "ytmpdflbopbiliaa", sum := "660be14dab3ca01fa34f5f98e24a59602326c784d0e186831f679c2da1a3d66e", func := "loop.example/g00153/laws.FnExactDead", spec := "fnExactDead", apart := false }
def FnExactDeadSaid : Prop := fnExactDeadRow.holds Try.pinned (OpenSpec.ofChange fnExactDeadSpec)

/-- ITS FALSE NEIGHBOUR: 'it returns false'. Refute it at one input. -/
def fnExactDeadWrong : ChangeSpec := { name := "fnExactDead", fn := fun _ => fun
  | [d1, d2, d3] => { results := [.lit (.bool false)], args := [d1, d2, d3] }
  | _ => none }
def FnExactDeadWrongFalsely : Prop := fnExactDeadRow.holds Try.pinned (OpenSpec.ofChange fnExactDeadWrong)

/-- 'laws.FnExactSafe': WHATEVER THE INPUT: true; the input reads as it did. -/
def fnExactSafeSpec : ChangeSpec := { name := "fnExactSafe", fn := fun _ => fun
  | [d1, d2, d3] => { results := [.lit (.bool true)], args := [d1, d2, d3] }
  | _ => none }
def fnExactSafeRow : OpenClaim := { program := "ytmpdflbopbiliaa", sum := "660be14dab3ca01fa34f5f98e24a59602326c784d0e186831f679c2da1a3d66e", func := "loop.example/g00153/laws.FnExactSafe", spec := "fnExactSafe", apart := false }
def FnExactSafeSaid : Prop := fnExactSafeRow.holds Try.pinned (OpenSpec.ofChange fnExactSafeSpec)

/-- ITS FALSE NEIGHBOUR: 'it returns false'. Refute it at one input. -/
def fnExactSafeWrong : ChangeSpec := { name := "fnExactSafe", fn := fun _ => fun
  | [d1, d2, d3] => { results := [.lit (.bool false)], args := [d1, d2, d3] }
  | _ => none }
def FnExactSafeWrongFalsely : Prop := fnExactSafeRow.holds Try.pinned (OpenSpec.ofChange fnExactSafeWrong)

/-- 'laws.FnExactEnds': WHATEVER THE INPUT: true; the input reads as it did. -/
def fnExactEndsSpec : ChangeSpec := { name := "fnExactEnds", fn := fun _ => fun
  | [d] => { results := [.lit (.bool true)], args := [d] }
  | _ => none }
def fnExactEndsRow : OpenClaim := { program := "ytmpdflbopbiliaa", sum := "660be14dab3ca01fa34f5f98e24a59602326c784d0e186831f679c2da1a3d66e", func := "loop.example/g00153/laws.FnExactEnds", spec := "fnExactEnds", apart := false }
def FnExactEndsSaid : Prop := fnExactEndsRow.holds Try.pinned (OpenSpec.ofChange fnExactEndsSpec)

/-- ITS FALSE NEIGHBOUR: 'it returns false'. Refute it at one input. -/
def fnExactEndsWrong : ChangeSpec := { name := "fnExactEnds", fn := fun _ => fun
  | [d] => { results := [.lit (.bool false)], args := [d] }
  | _ => none }
def FnExactEndsWrongFalsely : Prop := fnExactEndsRow.holds Try.pinned (OpenSpec.ofChange fnExactEndsWrong)

/-- 'laws.FnExactPack': WHATEVER THE INPUT: true; the input reads as it did. -/
def fnExactPackSpec : ChangeSpec := { name := "fnExactPack", fn := fun _ => fun
  | [d1, d2, d3] => { results := [.lit (.bool true)], args := [d1, d2, d3] }
  | _ => none }
def fnExactPackRow : OpenClaim := { program := "ytmpdflbopbiliaa", sum := "660be14dab3ca01fa34f5f98e24a59602326c784d0e186831f679c2da1a3d66e", func := "loop.example/g00153/laws.FnExactPack", spec := "fnExactPack", apart := false }
def FnExactPackSaid : Prop := fnExactPackRow.holds Try.pinned (OpenSpec.ofChange fnExactPackSpec)

/-- ITS FALSE NEIGHBOUR: 'it returns false'. Refute it at one input. -/
def fnExactPackWrong : ChangeSpec := { name := "fnExactPack", fn := fun _ => fun
  | [d1, d2, d3] => { results := [.lit (.bool false)], args := [d1, d2, d3] }
  | _ => none }
def FnExactPackWrongFalsely : Prop := fnExactPackRow.holds Try.pinned (OpenSpec.ofChange fnExactPackWrong)

/-- 'laws.FnExactNext': WHATEVER THE INPUT: true; the input reads as it did. -/
def fnExactNextSpec : ChangeSpec := { name := "fnExactNext", fn := fun _ => fun
  | [d1, d2] => { results := [.lit (.bool true)], args := [d1, d2] }
  | _ => none }
def fnExactNextRow : OpenClaim := { program := "ytmpdflbopbiliaa", sum := "660be14dab3ca01fa34f5f98e24a59602326c784d0e186831f679c2da1a3d66e", func := "loop.example/g00153/laws.FnExactNext", spec := "fnExactNext", apart := false }
def FnExactNextSaid : Prop := fnExactNextRow.holds Try.pinned (OpenSpec.ofChange fnExactNextSpec)

/-- ITS FALSE NEIGHBOUR: 'it returns false'. Refute it at one input. -/
def fnExactNextWrong : ChangeSpec := { name := "fnExactNext", fn := fun _ => fun
  | [d1, d2] => { results := [.lit (.bool false)], args := [d1, d2] }
  | _ => none }
def FnExactNextWrongFalsely : Prop := fnExactNextRow.holds Try.pinned (OpenSpec.ofChange fnExactNextWrong)

/- THE SECOND FORM. 'bulk': how many values and letters a reading holds, each counted each time it is reached (what is shared counts as often as it is met; a slice's spare places count too). A statement '..UptoSaid' is the law's where the arguments, and the package variables that the reading takes, are together of bulk at most 1048576: NARROWER than '..Said'. Prove '..Said' where nothing that the law and all that it calls make is longer than what came in: it says more and counts as full. Else prove '..UptoSaid'. A law counts once. -/
mutual
def uptoBulk {H : Type} : DataW H → Nat
  | .lit (.string bytes) => bytes.length + 1
  | .lit _ => 1
  | .nil => 1
  | .ptr d => uptoBulk d + 1
  | .slice elems spare => uptoBulkAll elems + uptoBulkAll spare + 1
  | .agg parts => uptoBulkAll parts + 1
  | .iface _ d => uptoBulk d + 1
  | .map entries => uptoBulkEntries entries + 1
  | .held _ => 1
def uptoBulkAll {H : Type} : List (DataW H) → Nat
  | [] => 0
  | d :: r => uptoBulk d + uptoBulkAll r
def uptoBulkEntries {H : Type} : List (Lit × DataW H) → Nat
  | [] => 0
  | x :: r => uptoBulkEntry x + uptoBulkEntries r
def uptoBulkEntry {H : Type} : Lit × DataW H → Nat
  | (.string bytes, d) => bytes.length + uptoBulk d + 1
  | (_, d) => uptoBulk d + 1
 end
def uptoSmall : (H : Type) → List (DataW H) → Bool := fun _ ds => decide (uptoBulkAll ds ≤ 1048576)
def OpenSpec.upto (s : _root_.Go.ChangeSpec) : _root_.Go.OpenSpec := { _root_.Go.OpenSpec.ofChange s with cond := some uptoSmall }

/-- 'laws.FnExactConstants', WHERE WHAT IT READS IS OF BULK AT MOST 1048576: true; the input reads as it did. -/
def fnExactConstantsUptoRow : OpenClaim := { program := "ytmpdflbopbiliaa", sum := "660be14dab3ca01fa34f5f98e24a59602326c784d0e186831f679c2da1a3d66e", func := "loop.example/g00153/laws.FnExactConstants", spec := "fnExactConstants", apart := false, narrowed := true }
def FnExactConstantsUptoSaid : Prop := fnExactConstantsUptoRow.holds Try.pinned (OpenSpec.upto fnExactConstantsSpec)

/-- 'laws.FnExactHeadOk', WHERE WHAT IT READS IS OF BULK AT MOST 1048576: true; the input reads as it did. -/
def fnExactHeadOkUptoRow : OpenClaim := { program := "ytmpdflbopbiliaa", sum := "660be14dab3ca01fa34f5f98e24a59602326c784d0e186831f679c2da1a3d66e", func := "loop.example/g00153/laws.FnExactHeadOk", spec := "fnExactHeadOk", apart := false, narrowed := true }
def FnExactHeadOkUptoSaid : Prop := fnExactHeadOkUptoRow.holds Try.pinned (OpenSpec.upto fnExactHeadOkSpec)

/-- 'laws.FnExactLocked', WHERE WHAT IT READS IS OF BULK AT MOST 1048576: true; the input reads as it did. -/
def fnExactLockedUptoRow : OpenClaim := { program := "ytmpdflbopbiliaa", sum := "660be14dab3ca01fa34f5f98e24a59602326c784d0e186831f679c2da1a3d66e", func := "loop.example/g00153/laws.FnExactLocked", spec := "fnExactLocked", apart := false, narrowed := true }
def FnExactLockedUptoSaid : Prop := fnExactLockedUptoRow.holds Try.pinned (OpenSpec.upto fnExactLockedSpec)

/-- 'laws.FnExactUsed', WHERE WHAT IT READS IS OF BULK AT MOST 1048576: true; the input reads as it did. -/
def fnExactUsedUptoRow : OpenClaim := { program := "ytmpdflbopbiliaa", sum := "660be14dab3ca01fa34f5f98e24a59602326c784d0e186831f679c2da1a3d66e", func := "loop.example/g00153/laws.FnExactUsed", spec := "fnExactUsed", apart := false, narrowed := true }
def FnExactUsedUptoSaid : Prop := fnExactUsedUptoRow.holds Try.pinned (OpenSpec.upto fnExactUsedSpec)

/-- 'laws.FnExactVersion', WHERE WHAT IT READS IS OF BULK AT MOST 1048576: true; the input reads as it did. -/
def fnExactVersionUptoRow : OpenClaim := { program := "ytmpdflbopbiliaa", sum := "660be14dab3ca01fa34f5f98e24a59602326c784d0e186831f679c2da1a3d66e", func := "loop.example/g00153/laws.FnExactVersion", spec := "fnExactVersion", apart := false, narrowed := true }
def FnExactVersionUptoSaid : Prop := fnExactVersionUptoRow.holds Try.pinned (OpenSpec.upto fnExactVersionSpec)

/-- 'laws.FnExactLeaseOk', WHERE WHAT IT READS IS OF BULK AT MOST 1048576: true; the input reads as it did. -/
def fnExactLeaseOkUptoRow : OpenClaim := { program := "ytmpdflbopbiliaa", sum := "660be14dab3ca01fa34f5f98e24a59602326c784d0e186831f679c2da1a3d66e", func := "loop.example/g00153/laws.FnExactLeaseOk", spec := "fnExactLeaseOk", apart := false, narrowed := true }
def FnExactLeaseOkUptoSaid : Prop := fnExactLeaseOkUptoRow.holds Try.pinned (OpenSpec.upto fnExactLeaseOkSpec)

/-- 'laws.FnExactSetOk', WHERE WHAT IT READS IS OF BULK AT MOST 1048576: true; the input reads as it did. -/
def fnExactSetOkUptoRow : OpenClaim := { program := "ytmpdflbopbiliaa", sum := "660be14dab3ca01fa34f5f98e24a59602326c784d0e186831f679c2da1a3d66e", func := "loop.example/g00153/laws.FnExactSetOk", spec := "fnExactSetOk", apart := false, narrowed := true }
def FnExactSetOkUptoSaid : Prop := fnExactSetOkUptoRow.holds Try.pinned (OpenSpec.upto fnExactSetOkSpec)

/-- 'laws.FnExactDead', WHERE WHAT IT READS IS OF BULK AT MOST 1048576: true; the input reads as it did. -/
def fnExactDeadUptoRow : OpenClaim := { program := "ytmpdflbopbiliaa", sum := "660be14dab3ca01fa34f5f98e24a59602326c784d0e186831f679c2da1a3d66e", func := "loop.example/g00153/laws.FnExactDead", spec := "fnExactDead", apart := false, narrowed := true }
def FnExactDeadUptoSaid : Prop := fnExactDeadUptoRow.holds Try.pinned (OpenSpec.upto fnExactDeadSpec)

/-- 'laws.FnExactSafe', WHERE WHAT IT READS IS OF BULK AT MOST 1048576: true; the input reads as it did. -/
def fnExactSafeUptoRow : OpenClaim := { program := "ytmpdflbopbiliaa", sum := "660be14dab3ca01fa34f5f98e24a59602326c784d0e186831f679c2da1a3d66e", func := "loop.example/g00153/laws.FnExactSafe", spec := "fnExactSafe", apart := false, narrowed := true }
def FnExactSafeUptoSaid : Prop := fnExactSafeUptoRow.holds Try.pinned (OpenSpec.upto fnExactSafeSpec)

/-- 'laws.FnExactEnds', WHERE WHAT IT READS IS OF BULK AT MOST 1048576: true; the input reads as it did. -/
def fnExactEndsUptoRow : OpenClaim := { program := "ytmpdflbopbiliaa", sum := "660be14dab3ca01fa34f5f98e24a59602326c784d0e186831f679c2da1a3d66e", func := "loop.example/g00153/laws.FnExactEnds", spec := "fnExactEnds", apart := false, narrowed := true }
def FnExactEndsUptoSaid : Prop := fnExactEndsUptoRow.holds Try.pinned (OpenSpec.upto fnExactEndsSpec)

/-- 'laws.FnExactPack', WHERE WHAT IT READS IS OF BULK AT MOST 1048576: true; the input reads as it did. -/
def fnExactPackUptoRow : OpenClaim := { program := "ytmpdflbopbiliaa", sum := "660be14dab3ca01fa34f5f98e24a59602326c784d0e186831f679c2da1a3d66e", func := "loop.example/g00153/laws.FnExactPack", spec := "fnExactPack", apart := false, narrowed := true }
def FnExactPackUptoSaid : Prop := fnExactPackUptoRow.holds Try.pinned (OpenSpec.upto fnExactPackSpec)

/-- 'laws.FnExactNext', WHERE WHAT IT READS IS OF BULK AT MOST 1048576: true; the input reads as it did. -/
def fnExactNextUptoRow : OpenClaim := { program := "ytmpdflbopbiliaa", sum := "660be14dab3ca01fa34f5f98e24a59602326c784d0e186831f679c2da1a3d66e", func := "loop.example/g00153/laws.FnExactNext", spec := "fnExactNext", apart := false, narrowed := true }
def FnExactNextUptoSaid : Prop := fnExactNextUptoRow.holds Try.pinned (OpenSpec.upto fnExactNextSpec)

end Rows
end Go.Proofs.Ytmpdflbopbiliaa
