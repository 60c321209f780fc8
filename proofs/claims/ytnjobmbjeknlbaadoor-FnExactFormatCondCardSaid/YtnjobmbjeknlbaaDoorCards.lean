/-
  DERIVED. GIVEN WITH THE SEED: THE CARDS: each row of YtnjobmbjeknlbaaDoorRows.lean that lists a variable, with what it lists TIED to the program's text (the seventh form; the later family's looks); each row that meets fmt, with fmt's text TOLD by the authors' own Lean function (tested against real Go, not proved from fmt's source: count such statements apart). THE CARD IS WHAT COUNTS. Prove the row's statement (the work); the ties are given (YtnjobmbjeknlbaaDoorTie.lean); close each card by the builder's one call (the guide's Derived/Test/ToyasCard.lean, 'card_holds'). Laid BY PROGRAM, IN A SANDBOX (cutbox-door.mjs). By AI agents, Wed Nov 11 2026. No macro, syntax, notation, axiom, sorry.
-/
import Derived.Test.YtnjobmbjeknlbaaDoorRows
import GoSem.ClaimSeven
namespace Go.Proofs.YtnjobmbjeknlbaaDoor
namespace Rows

/-- THE TIED CARD OF 'laws.FnExactCondName'. -/
def fnExactCondNameCard : Claim7 := { stood := { row := fnExactCondNameRow, standIns := [], harness := (true, "a5f044d701d22bfc601dc31b109cd54a2d487d7b30e7333b329ed1399478f12c"), looks := false }, kinds := [], alts := [], laidByText := true, laidKinds := [.widerDeep], laidTests := true, laidLooks := .later }
def FnExactCondNameCardSaid : Prop := Claim7.holds Tryd.pinned (.plain (OpenSpec.ofChange fnExactCondNameSpec)) fnExactCondNameCard

/-- THE TIED CARD OF 'laws.FnExactFormatCond'. -/
def fnExactFormatCondCard : Claim7 := { stood := { row := fnExactFormatCondRow, standIns := [], harness := (true, "a5f044d701d22bfc601dc31b109cd54a2d487d7b30e7333b329ed1399478f12c"), looks := false }, kinds := [], alts := [], laidByText := true, laidKinds := [.data, .data, .data, .widerDeep], laidTests := true, laidLooks := .later }
def FnExactFormatCondCardSaid : Prop := Claim7.holds Tryd.pinned (.plain (OpenSpec.ofChange fnExactFormatCondSpec)) fnExactFormatCondCard

/-- THE SECOND FORM's CARD OF 'laws.FnExactCondName'. -/
def fnExactCondNameUptoCard : Claim7 := { stood := { row := fnExactCondNameUptoRow, standIns := [], harness := (true, "a5f044d701d22bfc601dc31b109cd54a2d487d7b30e7333b329ed1399478f12c"), looks := false }, kinds := [], alts := [], laidByText := true, laidKinds := [.widerDeep], laidTests := true, laidLooks := .later }
def FnExactCondNameUptoCardSaid : Prop := Claim7.holds Tryd.pinned (.plain (OpenSpec.upto fnExactCondNameSpec)) fnExactCondNameUptoCard

/-- THE SECOND FORM's CARD OF 'laws.FnExactFormatCond'. -/
def fnExactFormatCondUptoCard : Claim7 := { stood := { row := fnExactFormatCondUptoRow, standIns := [], harness := (true, "a5f044d701d22bfc601dc31b109cd54a2d487d7b30e7333b329ed1399478f12c"), looks := false }, kinds := [], alts := [], laidByText := true, laidKinds := [.data, .data, .data, .widerDeep], laidTests := true, laidLooks := .later }
def FnExactFormatCondUptoCardSaid : Prop := Claim7.holds Tryd.pinned (.plain (OpenSpec.upto fnExactFormatCondSpec)) fnExactFormatCondUptoCard
end Rows
end Go.Proofs.YtnjobmbjeknlbaaDoor
