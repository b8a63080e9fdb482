/-
  No cell of these rows narrows 'for every input' (looked for: loops, veiled, ifaces, maps, wideKeys, modest, calm, conditions, laid).
  DERIVED. THE GIVEN ROWS OF THIS SEAT. 7 by the template 'for every input the law returns true; each argument reads behind the call as it read before'; 0 by the template 'total and deterministic' (their statements: YthplaakckfhaaaaTotals.lean).
  GIVEN WITH THE SEED: the statements are not yours to turn. If you find one false, say at which input.
  Laid BY PROGRAM, IN A SANDBOX (cutbox-rows.mjs): the forced cells as the released guide's own fill.sh prints them over the translation 0e0ee2357630f72d… (all of the seat's roots in one cut). By AI agents, Wed Nov 11 2026. No macro, syntax, notation, axiom, sorry.
-/
import Derived.Test.YthplaakckfhaaaaChecked
import GoSem.Claim
import GoSem.ClaimJoined
import GoSem.ClaimMapViews
import Derived.JoinedTies
import Derived.KernelRfl
namespace Go.Proofs.Ythplaakckfhaaaa
/- THE CELL 'sum', in the pinned program and in every row, IS THE sha256 OF THE DUMP (.gsa) THAT YthplaakckfhaaaaProg.lean LOADS. Nothing in Lean hashes anything: it is a label: what it is worth is what the hold of that sum in a sandbox is worth. -/
noncomputable def Try.pinned : Pinned := { name := "ythplaakckfhaaaa", sum := "0e0ee2357630f72d94c6ec727b5d811fa1f369604ada7b7f79684ff1bf894f3a", checked := Try.checked }
namespace Rows
def none {H : Type} : Left H := { results := [], args := [] }

/-- 'laws.FnExactMachineOk': WHATEVER THE INPUT: true; the input reads as it did. -/
def fnExactMachineOkSpec : ChangeSpec := { name := "fnExactMachineOk", fn := fun _ => fun
  | [d] => { results := [.lit (.bool true)], args := [d] }
  | _ => none }
def fnExactMachineOkRow : OpenClaim := { program := "ythplaakckfhaaaa", sum := "0e0ee2357630f72d94c6ec727b5d811fa1f369604ada7b7f79684ff1bf894f3a", func := "loop.example/g00153/laws.FnExactMachineOk", spec := "fnExactMachineOk", unfollowed := true, recurses := true, apart := false }
def FnExactMachineOkSaid : Prop := fnExactMachineOkRow.holds Try.pinned (OpenSpec.ofChange fnExactMachineOkSpec)

/-- ITS FALSE NEIGHBOUR: 'it returns false'. Refute it at one input. -/
def fnExactMachineOkWrong : ChangeSpec := { name := "fnExactMachineOk", fn := fun _ => fun
  | [d] => { results := [.lit (.bool false)], args := [d] }
  | _ => none }
def FnExactMachineOkWrongFalsely : Prop := fnExactMachineOkRow.holds Try.pinned (OpenSpec.ofChange fnExactMachineOkWrong)

/-- 'laws.FnExactCopied': WHATEVER THE INPUT: true; the input reads as it did. -/
def fnExactCopiedSpec : ChangeSpec := { name := "fnExactCopied", fn := fun _ => fun
  | [d1, d2] => { results := [.lit (.bool true)], args := [d1, d2] }
  | _ => none }
def fnExactCopiedRow : OpenClaim := { program := "ythplaakckfhaaaa", sum := "0e0ee2357630f72d94c6ec727b5d811fa1f369604ada7b7f79684ff1bf894f3a", func := "loop.example/g00153/laws.FnExactCopied", spec := "fnExactCopied", unfollowed := true, recurses := true, apart := false }
def FnExactCopiedSaid : Prop := fnExactCopiedRow.holds Try.pinned (OpenSpec.ofChange fnExactCopiedSpec)

/-- ITS FALSE NEIGHBOUR: 'it returns false'. Refute it at one input. -/
def fnExactCopiedWrong : ChangeSpec := { name := "fnExactCopied", fn := fun _ => fun
  | [d1, d2] => { results := [.lit (.bool false)], args := [d1, d2] }
  | _ => none }
def FnExactCopiedWrongFalsely : Prop := fnExactCopiedRow.holds Try.pinned (OpenSpec.ofChange fnExactCopiedWrong)

/-- 'laws.FnExactLogged': WHATEVER THE INPUT: true; the input reads as it did. -/
def fnExactLoggedSpec : ChangeSpec := { name := "fnExactLogged", fn := fun _ => fun
  | [d1, d2, d3, d4] => { results := [.lit (.bool true)], args := [d1, d2, d3, d4] }
  | _ => none }
def fnExactLoggedRow : OpenClaim := { program := "ythplaakckfhaaaa", sum := "0e0ee2357630f72d94c6ec727b5d811fa1f369604ada7b7f79684ff1bf894f3a", func := "loop.example/g00153/laws.FnExactLogged", spec := "fnExactLogged", unfollowed := true, recurses := true, apart := false }
def FnExactLoggedSaid : Prop := fnExactLoggedRow.holds Try.pinned (OpenSpec.ofChange fnExactLoggedSpec)

/-- ITS FALSE NEIGHBOUR: 'it returns false'. Refute it at one input. -/
def fnExactLoggedWrong : ChangeSpec := { name := "fnExactLogged", fn := fun _ => fun
  | [d1, d2, d3, d4] => { results := [.lit (.bool false)], args := [d1, d2, d3, d4] }
  | _ => none }
def FnExactLoggedWrongFalsely : Prop := fnExactLoggedRow.holds Try.pinned (OpenSpec.ofChange fnExactLoggedWrong)

/-- 'laws.FnExactAppend': WHATEVER THE INPUT: true; the input reads as it did. -/
def fnExactAppendSpec : ChangeSpec := { name := "fnExactAppend", fn := fun _ => fun
  | [d1, d2] => { results := [.lit (.bool true)], args := [d1, d2] }
  | _ => none }
def fnExactAppendRow : OpenClaim := { program := "ythplaakckfhaaaa", sum := "0e0ee2357630f72d94c6ec727b5d811fa1f369604ada7b7f79684ff1bf894f3a", func := "loop.example/g00153/laws.FnExactAppend", spec := "fnExactAppend", unfollowed := true, recurses := true, apart := false }
def FnExactAppendSaid : Prop := fnExactAppendRow.holds Try.pinned (OpenSpec.ofChange fnExactAppendSpec)

/-- ITS FALSE NEIGHBOUR: 'it returns false'. Refute it at one input. -/
def fnExactAppendWrong : ChangeSpec := { name := "fnExactAppend", fn := fun _ => fun
  | [d1, d2] => { results := [.lit (.bool false)], args := [d1, d2] }
  | _ => none }
def FnExactAppendWrongFalsely : Prop := fnExactAppendRow.holds Try.pinned (OpenSpec.ofChange fnExactAppendWrong)

/-- 'laws.FnExactTurn': WHATEVER THE INPUT: true; the input reads as it did. -/
def fnExactTurnSpec : ChangeSpec := { name := "fnExactTurn", fn := fun _ => fun
  | [d1, d2, d3] => { results := [.lit (.bool true)], args := [d1, d2, d3] }
  | _ => none }
def fnExactTurnRow : OpenClaim := { program := "ythplaakckfhaaaa", sum := "0e0ee2357630f72d94c6ec727b5d811fa1f369604ada7b7f79684ff1bf894f3a", func := "loop.example/g00153/laws.FnExactTurn", spec := "fnExactTurn", unfollowed := true, recurses := true, apart := false }
def FnExactTurnSaid : Prop := fnExactTurnRow.holds Try.pinned (OpenSpec.ofChange fnExactTurnSpec)

/-- ITS FALSE NEIGHBOUR: 'it returns false'. Refute it at one input. -/
def fnExactTurnWrong : ChangeSpec := { name := "fnExactTurn", fn := fun _ => fun
  | [d1, d2, d3] => { results := [.lit (.bool false)], args := [d1, d2, d3] }
  | _ => none }
def FnExactTurnWrongFalsely : Prop := fnExactTurnRow.holds Try.pinned (OpenSpec.ofChange fnExactTurnWrong)

/-- 'laws.FnExactReplace': WHATEVER THE INPUT: true; the input reads as it did. -/
def fnExactReplaceSpec : ChangeSpec := { name := "fnExactReplace", fn := fun _ => fun
  | [d1, d2, d3] => { results := [.lit (.bool true)], args := [d1, d2, d3] }
  | _ => none }
def fnExactReplaceRow : OpenClaim := { program := "ythplaakckfhaaaa", sum := "0e0ee2357630f72d94c6ec727b5d811fa1f369604ada7b7f79684ff1bf894f3a", func := "loop.example/g00153/laws.FnExactReplace", spec := "fnExactReplace", inPlace := ["slices.overlaps[loop.example/g00153/impl.Copy]"], unfollowed := true, recurses := true, apart := false }
def FnExactReplaceSaid : Prop := fnExactReplaceRow.holds Try.pinned (OpenSpec.ofChange fnExactReplaceSpec)

/-- ITS FALSE NEIGHBOUR: 'it returns false'. Refute it at one input. -/
def fnExactReplaceWrong : ChangeSpec := { name := "fnExactReplace", fn := fun _ => fun
  | [d1, d2, d3] => { results := [.lit (.bool false)], args := [d1, d2, d3] }
  | _ => none }
def FnExactReplaceWrongFalsely : Prop := fnExactReplaceRow.holds Try.pinned (OpenSpec.ofChange fnExactReplaceWrong)

/-- 'laws.FnCleared': WHATEVER THE INPUT: true; the input reads as it did. -/
def fnClearedSpec : ChangeSpec := { name := "fnCleared", fn := fun _ => fun
  | [d] => { results := [.lit (.bool true)], args := [d] }
  | _ => none }
def fnClearedRow : OpenClaim := { program := "ythplaakckfhaaaa", sum := "0e0ee2357630f72d94c6ec727b5d811fa1f369604ada7b7f79684ff1bf894f3a", func := "loop.example/g00153/laws.FnCleared", spec := "fnCleared", inPlace := ["slices.overlaps[int64]"], unfollowed := true, recurses := true, apart := false }
def FnClearedSaid : Prop := fnClearedRow.holds Try.pinned (OpenSpec.ofChange fnClearedSpec)

/-- ITS FALSE NEIGHBOUR: 'it returns false'. Refute it at one input. -/
def fnClearedWrong : ChangeSpec := { name := "fnCleared", fn := fun _ => fun
  | [d] => { results := [.lit (.bool false)], args := [d] }
  | _ => none }
def FnClearedWrongFalsely : Prop := fnClearedRow.holds Try.pinned (OpenSpec.ofChange fnClearedWrong)

/- THE SECOND FORM. 'bulk': how many values and letters a reading holds, each counted each time it is reached (what is shared counts as often as it is met; a slice's spare places count too). A statement '..UptoSaid' is the law's where the arguments, and the package variables that the reading takes, are together of bulk at most 1048576: NARROWER than '..Said'. Prove '..Said' where nothing that the law and all that it calls make is longer than what came in: it says more and counts as full. Else prove '..UptoSaid'. A law counts once. -/
mutual
def uptoBulk {H : Type} : DataW H → Nat
  | .lit (.string bytes) => bytes.length + 1
  | .lit _ => 1
  | .nil => 1
  | .ptr d => uptoBulk d + 1
  | .slice elems spare => uptoBulkAll elems + uptoBulkAll spare + 1
  | .agg parts => uptoBulkAll parts + 1
  | .iface _ d => uptoBulk d + 1
  | .map entries => uptoBulkEntries entries + 1
  | .held _ => 1
def uptoBulkAll {H : Type} : List (DataW H) → Nat
  | [] => 0
  | d :: r => uptoBulk d + uptoBulkAll r
def uptoBulkEntries {H : Type} : List (Lit × DataW H) → Nat
  | [] => 0
  | x :: r => uptoBulkEntry x + uptoBulkEntries r
def uptoBulkEntry {H : Type} : Lit × DataW H → Nat
  | (.string bytes, d) => bytes.length + uptoBulk d + 1
  | (_, d) => uptoBulk d + 1
 end
def uptoSmall : (H : Type) → List (DataW H) → Bool := fun _ ds => decide (uptoBulkAll ds ≤ 1048576)
def OpenSpec.upto (s : _root_.Go.ChangeSpec) : _root_.Go.OpenSpec := { _root_.Go.OpenSpec.ofChange s with cond := some uptoSmall }

/-- 'laws.FnExactMachineOk', WHERE WHAT IT READS IS OF BULK AT MOST 1048576: true; the input reads as it did. -/
def fnExactMachineOkUptoRow : OpenClaim := { program := "ythplaakckfhaaaa", sum := "0e0ee2357630f72d94c6ec727b5d811fa1f369604ada7b7f79684ff1bf894f3a", func := "loop.example/g00153/laws.FnExactMachineOk", spec := "fnExactMachineOk", unfollowed := true, recurses := true, apart := false, narrowed := true }
def FnExactMachineOkUptoSaid : Prop := fnExactMachineOkUptoRow.holds Try.pinned (OpenSpec.upto fnExactMachineOkSpec)

/-- 'laws.FnExactCopied', WHERE WHAT IT READS IS OF BULK AT MOST 1048576: true; the input reads as it did. -/
def fnExactCopiedUptoRow : OpenClaim := { program := "ythplaakckfhaaaa", sum := "0e0ee2357630f72d94c6ec727b5d811fa1f369604ada7b7f79684ff1bf894f3a", func := "loop.example/g00153/laws.FnExactCopied", spec := "fnExactCopied", unfollowed := true, recurses := true, apart := false, narrowed := true }
def FnExactCopiedUptoSaid : Prop := fnExactCopiedUptoRow.holds Try.pinned (OpenSpec.upto fnExactCopiedSpec)

/-- 'laws.FnExactLogged', WHERE WHAT IT READS IS OF BULK AT MOST 1048576: true; the input reads as it did. -/
def fnExactLoggedUptoRow : OpenClaim := { program := "ythplaakckfhaaaa", sum := "0e0ee2357630f72d94c6ec727b5d811fa1f369604ada7b7f79684ff1bf894f3a", func := "loop.example/g00153/laws.FnExactLogged", spec := "fnExactLogged", unfollowed := true, recurses := true, apart := false, narrowed := true }
def FnExactLoggedUptoSaid : Prop := fnExactLoggedUptoRow.holds Try.pinned (OpenSpec.upto fnExactLoggedSpec)

/-- 'laws.FnExactAppend', WHERE WHAT IT READS IS OF BULK AT MOST 1048576: true; the input reads as it did. -/
def fnExactAppendUptoRow : OpenClaim := { program := "ythplaakckfhaaaa", sum := "0e0ee2357630f72d94c6ec727b5d811fa1f369604ada7b7f79684ff1bf894f3a", func := "loop.example/g00153/laws.FnExactAppend", spec := "fnExactAppend", unfollowed := true, recurses := true, apart := false, narrowed := true }
def FnExactAppendUptoSaid : Prop := fnExactAppendUptoRow.holds Try.pinned (OpenSpec.upto fnExactAppendSpec)

/-- 'laws.FnExactTurn', WHERE WHAT IT READS IS OF BULK AT MOST 1048576: true; the input reads as it did. -/
def fnExactTurnUptoRow : OpenClaim := { program := "ythplaakckfhaaaa", sum := "0e0ee2357630f72d94c6ec727b5d811fa1f369604ada7b7f79684ff1bf894f3a", func := "loop.example/g00153/laws.FnExactTurn", spec := "fnExactTurn", unfollowed := true, recurses := true, apart := false, narrowed := true }
def FnExactTurnUptoSaid : Prop := fnExactTurnUptoRow.holds Try.pinned (OpenSpec.upto fnExactTurnSpec)

/-- 'laws.FnExactReplace', WHERE WHAT IT READS IS OF BULK AT MOST 1048576: true; the input reads as it did. -/
def fnExactReplaceUptoRow : OpenClaim := { program := "ythplaakckfhaaaa", sum := "0e0ee2357630f72d94c6ec727b5d811fa1f369604ada7b7f79684ff1bf894f3a", func := "loop.example/g00153/laws.FnExactReplace", spec := "fnExactReplace", inPlace := ["slices.overlaps[loop.example/g00153/impl.Copy]"], unfollowed := true, recurses := true, apart := false, narrowed := true }
def FnExactReplaceUptoSaid : Prop := fnExactReplaceUptoRow.holds Try.pinned (OpenSpec.upto fnExactReplaceSpec)

/-- 'laws.FnCleared', WHERE WHAT IT READS IS OF BULK AT MOST 1048576: true; the input reads as it did. -/
def fnClearedUptoRow : OpenClaim := { program := "ythplaakckfhaaaa", sum := "0e0ee2357630f72d94c6ec727b5d811fa1f369604ada7b7f79684ff1bf894f3a", func := "loop.example/g00153/laws.FnCleared", spec := "fnCleared", inPlace := ["slices.overlaps[int64]"], unfollowed := true, recurses := true, apart := false, narrowed := true }
def FnClearedUptoSaid : Prop := fnClearedUptoRow.holds Try.pinned (OpenSpec.upto fnClearedSpec)

end Rows
end Go.Proofs.Ythplaakckfhaaaa
