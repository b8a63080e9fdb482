/-
  DERIVED. GIVEN WITH THE SEED: THE CARDS: each row of YtnilfnkdgdfnnaaDoorRows.lean that lists a variable, with what it lists TIED to the program's text (the seventh form; the later family's looks); each row that meets fmt, with fmt's text TOLD by the authors' own Lean function (tested against real Go, not proved from fmt's source: count such statements apart). THE CARD IS WHAT COUNTS. Prove the row's statement (the work); the ties are given (YtnilfnkdgdfnnaaDoorTie.lean); close each card by the builder's one call (the guide's Derived/Test/ToyasCard.lean, 'card_holds'). Laid BY PROGRAM, IN A SANDBOX (cutbox-door.mjs). By AI agents, Wed Nov 11 2026. No macro, syntax, notation, axiom, sorry.
-/
import Derived.Test.YtnilfnkdgdfnnaaDoorRows
import GoSem.ClaimSeven
namespace Go.Proofs.YtnilfnkdgdfnnaaDoor
namespace Rows

/-- THE TIED CARD OF 'laws.FnExactShowRecord'. -/
def fnExactShowRecordCard : Claim7 := { stood := { row := fnExactShowRecordRow, standIns := [], harness := (true, "ab088bee42c130bd3f3ed0cd2100e3088b6ab49837c07edcaa58371d2a865399"), looks := true }, kinds := [], alts := [], laidByText := true, laidKinds := [.data, .data, .data], laidTests := true, laidLooks := .later }
def FnExactShowRecordCardSaid : Prop := Claim7.holds Tryd.pinned (.plain (OpenSpec.ofChange fnExactShowRecordSpec)) fnExactShowRecordCard

/-- THE TIED CARD OF 'laws.FnExactReadRecord'. -/
def fnExactReadRecordCard : Claim7 := { stood := { row := fnExactReadRecordRow, standIns := [], harness := (true, "ab088bee42c130bd3f3ed0cd2100e3088b6ab49837c07edcaa58371d2a865399"), looks := true }, kinds := [], alts := [], laidByText := true, laidKinds := [.data, .data, .data, .data, .sentinel, .sentinel, .pinned], laidTests := true, laidLooks := .later }
def FnExactReadRecordCardSaid : Prop := Claim7.holds Tryd.pinned (.plain (OpenSpec.ofChange fnExactReadRecordSpec)) fnExactReadRecordCard

/-- THE SECOND FORM's CARD OF 'laws.FnExactShowRecord'. -/
def fnExactShowRecordUptoCard : Claim7 := { stood := { row := fnExactShowRecordUptoRow, standIns := [], harness := (true, "ab088bee42c130bd3f3ed0cd2100e3088b6ab49837c07edcaa58371d2a865399"), looks := true }, kinds := [], alts := [], laidByText := true, laidKinds := [.data, .data, .data], laidTests := true, laidLooks := .later }
def FnExactShowRecordUptoCardSaid : Prop := Claim7.holds Tryd.pinned (.plain (OpenSpec.upto fnExactShowRecordSpec)) fnExactShowRecordUptoCard

/-- THE SECOND FORM's CARD OF 'laws.FnExactReadRecord'. -/
def fnExactReadRecordUptoCard : Claim7 := { stood := { row := fnExactReadRecordUptoRow, standIns := [], harness := (true, "ab088bee42c130bd3f3ed0cd2100e3088b6ab49837c07edcaa58371d2a865399"), looks := true }, kinds := [], alts := [], laidByText := true, laidKinds := [.data, .data, .data, .data, .sentinel, .sentinel, .pinned], laidTests := true, laidLooks := .later }
def FnExactReadRecordUptoCardSaid : Prop := Claim7.holds Tryd.pinned (.plain (OpenSpec.upto fnExactReadRecordSpec)) fnExactReadRecordUptoCard
end Rows
end Go.Proofs.YtnilfnkdgdfnnaaDoor
