/-
  DERIVED. GIVEN WITH THE SEED: THE CARDS: each row of YtjkmcceipabejaaGreatDoorRows.lean that lists a variable, with what it lists TIED to the program's text (the seventh form; the later family's looks); each row that meets fmt, with fmt's text TOLD by the authors' own Lean function (tested against real Go, not proved from fmt's source: count such statements apart). THE CARD IS WHAT COUNTS. Prove the row's statement (the work); the ties are given (YtjkmcceipabejaaGreatDoorTie.lean); close each card by the builder's one call (the guide's Derived/Test/ToyasCard.lean, 'card_holds'). Laid BY PROGRAM, IN A SANDBOX (cutbox-door.mjs). By AI agents, Wed Nov 11 2026. No macro, syntax, notation, axiom, sorry.
-/
import Derived.Test.YtjkmcceipabejaaGreatDoorRows
import GoSem.ClaimSeven
namespace Go.Proofs.YtjkmcceipabejaaGreatDoor
namespace Rows

/-- THE TIED CARD OF 'palmettelaw15.MacroAdd'. -/
def macroAddCard : Claim7 := { stood := { row := macroAddRow, standIns := [], harness := (true, "7a750bafe5ea1946884f62d44f90effaf88654ddc036b5ec23e78867c0a9a9d5"), looks := true }, kinds := [], alts := [], laidByText := true, laidKinds := [.data, .data, .data, .sentinel, .sentinel, .listed, .data, .data, .data, .data, .data, .widerDeep], laidTests := true, laidLooks := .later }
def MacroAddCardSaid : Prop := Claim7.holds Tryz.pinned (.plain (OpenSpec.ofChange macroAddSpec)) macroAddCard

/-- THE TIED CARD OF 'palmettelaw15.MacroText'. -/
def macroTextCard : Claim7 := { stood := { row := macroTextRow, standIns := [], harness := (true, "7a750bafe5ea1946884f62d44f90effaf88654ddc036b5ec23e78867c0a9a9d5"), looks := true }, kinds := [], alts := [], laidByText := true, laidKinds := [.data, .data, .data, .sentinel, .sentinel, .listed, .data, .data, .data, .data, .data, .widerDeep], laidTests := true, laidLooks := .later }
def MacroTextCardSaid : Prop := Claim7.holds Tryz.pinned (.plain (OpenSpec.ofChange macroTextSpec)) macroTextCard

/-- THE TIED CARD OF 'palmettelaw15.MacroRoundTrip'. -/
def macroRoundTripCard : Claim7 := { stood := { row := macroRoundTripRow, standIns := [], harness := (true, "7a750bafe5ea1946884f62d44f90effaf88654ddc036b5ec23e78867c0a9a9d5"), looks := true }, kinds := [], alts := [], laidByText := true, laidKinds := [.data, .data, .data, .sentinel, .sentinel, .listed, .data, .data, .data, .data, .data, .widerDeep], laidTests := true, laidLooks := .later }
def MacroRoundTripCardSaid : Prop := Claim7.holds Tryz.pinned (.plain (OpenSpec.ofChange macroRoundTripSpec)) macroRoundTripCard

/-- THE TIED CARD OF 'palmettelaw15.MacroClosed'. -/
def macroClosedCard : Claim7 := { stood := { row := macroClosedRow, standIns := [], harness := (true, "7a750bafe5ea1946884f62d44f90effaf88654ddc036b5ec23e78867c0a9a9d5"), looks := true }, kinds := [], alts := [], laidByText := true, laidKinds := [.data, .data, .data, .sentinel, .sentinel, .listed, .data, .data, .data, .data, .data, .widerDeep], laidTests := true, laidLooks := .later }
def MacroClosedCardSaid : Prop := Claim7.holds Tryz.pinned (.plain (OpenSpec.ofChange macroClosedSpec)) macroClosedCard

/-- THE TIED CARD OF 'palmettelaw15.MacroNil'. -/
def macroNilCard : Claim7 := { stood := { row := macroNilRow, standIns := [], harness := (true, "7a750bafe5ea1946884f62d44f90effaf88654ddc036b5ec23e78867c0a9a9d5"), looks := true }, kinds := [], alts := [], laidByText := true, laidKinds := [.data, .data, .data, .sentinel, .sentinel, .listed, .data, .data, .data, .data, .data, .widerDeep], laidTests := true, laidLooks := .later }
def MacroNilCardSaid : Prop := Claim7.holds Tryz.pinned (.plain (OpenSpec.ofChange macroNilSpec)) macroNilCard

/-- THE SECOND FORM's CARD OF 'palmettelaw15.MacroAdd'. -/
def macroAddUptoCard : Claim7 := { stood := { row := macroAddUptoRow, standIns := [], harness := (true, "7a750bafe5ea1946884f62d44f90effaf88654ddc036b5ec23e78867c0a9a9d5"), looks := true }, kinds := [], alts := [], laidByText := true, laidKinds := [.data, .data, .data, .sentinel, .sentinel, .listed, .data, .data, .data, .data, .data, .widerDeep], laidTests := true, laidLooks := .later }
def MacroAddUptoCardSaid : Prop := Claim7.holds Tryz.pinned (.plain (OpenSpec.upto macroAddSpec)) macroAddUptoCard

/-- THE SECOND FORM's CARD OF 'palmettelaw15.MacroText'. -/
def macroTextUptoCard : Claim7 := { stood := { row := macroTextUptoRow, standIns := [], harness := (true, "7a750bafe5ea1946884f62d44f90effaf88654ddc036b5ec23e78867c0a9a9d5"), looks := true }, kinds := [], alts := [], laidByText := true, laidKinds := [.data, .data, .data, .sentinel, .sentinel, .listed, .data, .data, .data, .data, .data, .widerDeep], laidTests := true, laidLooks := .later }
def MacroTextUptoCardSaid : Prop := Claim7.holds Tryz.pinned (.plain (OpenSpec.upto macroTextSpec)) macroTextUptoCard

/-- THE SECOND FORM's CARD OF 'palmettelaw15.MacroRoundTrip'. -/
def macroRoundTripUptoCard : Claim7 := { stood := { row := macroRoundTripUptoRow, standIns := [], harness := (true, "7a750bafe5ea1946884f62d44f90effaf88654ddc036b5ec23e78867c0a9a9d5"), looks := true }, kinds := [], alts := [], laidByText := true, laidKinds := [.data, .data, .data, .sentinel, .sentinel, .listed, .data, .data, .data, .data, .data, .widerDeep], laidTests := true, laidLooks := .later }
def MacroRoundTripUptoCardSaid : Prop := Claim7.holds Tryz.pinned (.plain (OpenSpec.upto macroRoundTripSpec)) macroRoundTripUptoCard

/-- THE SECOND FORM's CARD OF 'palmettelaw15.MacroClosed'. -/
def macroClosedUptoCard : Claim7 := { stood := { row := macroClosedUptoRow, standIns := [], harness := (true, "7a750bafe5ea1946884f62d44f90effaf88654ddc036b5ec23e78867c0a9a9d5"), looks := true }, kinds := [], alts := [], laidByText := true, laidKinds := [.data, .data, .data, .sentinel, .sentinel, .listed, .data, .data, .data, .data, .data, .widerDeep], laidTests := true, laidLooks := .later }
def MacroClosedUptoCardSaid : Prop := Claim7.holds Tryz.pinned (.plain (OpenSpec.upto macroClosedSpec)) macroClosedUptoCard

/-- THE SECOND FORM's CARD OF 'palmettelaw15.MacroNil'. -/
def macroNilUptoCard : Claim7 := { stood := { row := macroNilUptoRow, standIns := [], harness := (true, "7a750bafe5ea1946884f62d44f90effaf88654ddc036b5ec23e78867c0a9a9d5"), looks := true }, kinds := [], alts := [], laidByText := true, laidKinds := [.data, .data, .data, .sentinel, .sentinel, .listed, .data, .data, .data, .data, .data, .widerDeep], laidTests := true, laidLooks := .later }
def MacroNilUptoCardSaid : Prop := Claim7.holds Tryz.pinned (.plain (OpenSpec.upto macroNilSpec)) macroNilUptoCard
end Rows
end Go.Proofs.YtjkmcceipabejaaGreatDoor
