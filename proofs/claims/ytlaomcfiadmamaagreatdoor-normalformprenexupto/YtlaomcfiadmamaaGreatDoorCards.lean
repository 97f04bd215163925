/-
  DERIVED. GIVEN WITH THE SEED: THE CARDS: each row of YtlaomcfiadmamaaGreatDoorRows.lean that lists a variable, with what it lists TIED to the program's text (the seventh form; the later family's looks); each row that meets fmt, with fmt's text TOLD by the authors' own Lean function (tested against real Go, not proved from fmt's source: count such statements apart). THE CARD IS WHAT COUNTS. Prove the row's statement (the work); the ties are given (YtlaomcfiadmamaaGreatDoorTie.lean); close each card by the builder's one call (the guide's Derived/Test/ToyasCard.lean, 'card_holds'). Laid BY PROGRAM, IN A SANDBOX (cutbox-door.mjs). By AI agents, Wed Nov 11 2026. No macro, syntax, notation, axiom, sorry.
-/
import Derived.Test.YtlaomcfiadmamaaGreatDoorRows
import GoSem.ClaimSeven
namespace Go.Proofs.YtlaomcfiadmamaaGreatDoor
namespace Rows

/-- THE TIED CARD OF 'palmettelaw14.NormalFormPrenex'. -/
def normalFormPrenexCard : Claim7 := { stood := { row := normalFormPrenexRow, standIns := [], harness := (true, "b34367b6766db9b15241072c03d13b69d32278ff4c548e9c83bab996baa3ee98"), looks := true }, kinds := [], alts := [], laidByText := true, laidKinds := [.data, .data, .data, .sentinel, .sentinel, .listed, .data, .data, .data], laidTests := true, laidLooks := .later }
def NormalFormPrenexCardSaid : Prop := Claim7.holds Tryz.pinned (.plain (OpenSpec.ofChange normalFormPrenexSpec)) normalFormPrenexCard

/-- THE TIED CARD OF 'palmettelaw14.NormalFormPrefix'. -/
def normalFormPrefixCard : Claim7 := { stood := { row := normalFormPrefixRow, standIns := [], harness := (true, "b34367b6766db9b15241072c03d13b69d32278ff4c548e9c83bab996baa3ee98"), looks := true }, kinds := [], alts := [], laidByText := true, laidKinds := [.data, .data, .data, .sentinel, .sentinel, .listed, .data, .data, .data], laidTests := true, laidLooks := .later }
def NormalFormPrefixCardSaid : Prop := Claim7.holds Tryz.pinned (.plain (OpenSpec.ofChange normalFormPrefixSpec)) normalFormPrefixCard

/-- THE TIED CARD OF 'palmettelaw14.NormalFormShapes'. -/
def normalFormShapesCard : Claim7 := { stood := { row := normalFormShapesRow, standIns := [], harness := (true, "b34367b6766db9b15241072c03d13b69d32278ff4c548e9c83bab996baa3ee98"), looks := true }, kinds := [], alts := [], laidByText := true, laidKinds := [.data, .data, .data, .sentinel, .sentinel, .listed, .data, .data, .data], laidTests := true, laidLooks := .later }
def NormalFormShapesCardSaid : Prop := Claim7.holds Tryz.pinned (.plain (OpenSpec.ofChange normalFormShapesSpec)) normalFormShapesCard

/-- THE TIED CARD OF 'palmettelaw14.NormalFormSimplify'. -/
def normalFormSimplifyCard : Claim7 := { stood := { row := normalFormSimplifyRow, standIns := [], harness := (true, "b34367b6766db9b15241072c03d13b69d32278ff4c548e9c83bab996baa3ee98"), looks := true }, kinds := [], alts := [], laidByText := true, laidKinds := [.data, .data, .data, .sentinel, .sentinel, .listed, .data, .data, .data], laidTests := true, laidLooks := .later }
def NormalFormSimplifyCardSaid : Prop := Claim7.holds Tryz.pinned (.plain (OpenSpec.ofChange normalFormSimplifySpec)) normalFormSimplifyCard

/-- THE TIED CARD OF 'palmettelaw14.NormalFormSimplifyShrinks'. -/
def normalFormSimplifyShrinksCard : Claim7 := { stood := { row := normalFormSimplifyShrinksRow, standIns := [], harness := (true, "b34367b6766db9b15241072c03d13b69d32278ff4c548e9c83bab996baa3ee98"), looks := true }, kinds := [], alts := [], laidByText := true, laidKinds := [.data, .data, .data, .sentinel, .sentinel, .listed, .data, .data, .data], laidTests := true, laidLooks := .later }
def NormalFormSimplifyShrinksCardSaid : Prop := Claim7.holds Tryz.pinned (.plain (OpenSpec.ofChange normalFormSimplifyShrinksSpec)) normalFormSimplifyShrinksCard

/-- THE TIED CARD OF 'palmettelaw14.NormalFormLimits'. -/
def normalFormLimitsCard : Claim7 := { stood := { row := normalFormLimitsRow, standIns := [], harness := (true, "b34367b6766db9b15241072c03d13b69d32278ff4c548e9c83bab996baa3ee98"), looks := true }, kinds := [], alts := [], laidByText := true, laidKinds := [.data, .data, .data, .sentinel, .sentinel, .listed, .data, .data, .data], laidTests := true, laidLooks := .later }
def NormalFormLimitsCardSaid : Prop := Claim7.holds Tryz.pinned (.plain (OpenSpec.ofChange normalFormLimitsSpec)) normalFormLimitsCard

/-- THE SECOND FORM's CARD OF 'palmettelaw14.NormalFormPrenex'. -/
def normalFormPrenexUptoCard : Claim7 := { stood := { row := normalFormPrenexUptoRow, standIns := [], harness := (true, "b34367b6766db9b15241072c03d13b69d32278ff4c548e9c83bab996baa3ee98"), looks := true }, kinds := [], alts := [], laidByText := true, laidKinds := [.data, .data, .data, .sentinel, .sentinel, .listed, .data, .data, .data], laidTests := true, laidLooks := .later }
def NormalFormPrenexUptoCardSaid : Prop := Claim7.holds Tryz.pinned (.plain (OpenSpec.upto normalFormPrenexSpec)) normalFormPrenexUptoCard

/-- THE SECOND FORM's CARD OF 'palmettelaw14.NormalFormPrefix'. -/
def normalFormPrefixUptoCard : Claim7 := { stood := { row := normalFormPrefixUptoRow, standIns := [], harness := (true, "b34367b6766db9b15241072c03d13b69d32278ff4c548e9c83bab996baa3ee98"), looks := true }, kinds := [], alts := [], laidByText := true, laidKinds := [.data, .data, .data, .sentinel, .sentinel, .listed, .data, .data, .data], laidTests := true, laidLooks := .later }
def NormalFormPrefixUptoCardSaid : Prop := Claim7.holds Tryz.pinned (.plain (OpenSpec.upto normalFormPrefixSpec)) normalFormPrefixUptoCard

/-- THE SECOND FORM's CARD OF 'palmettelaw14.NormalFormShapes'. -/
def normalFormShapesUptoCard : Claim7 := { stood := { row := normalFormShapesUptoRow, standIns := [], harness := (true, "b34367b6766db9b15241072c03d13b69d32278ff4c548e9c83bab996baa3ee98"), looks := true }, kinds := [], alts := [], laidByText := true, laidKinds := [.data, .data, .data, .sentinel, .sentinel, .listed, .data, .data, .data], laidTests := true, laidLooks := .later }
def NormalFormShapesUptoCardSaid : Prop := Claim7.holds Tryz.pinned (.plain (OpenSpec.upto normalFormShapesSpec)) normalFormShapesUptoCard

/-- THE SECOND FORM's CARD OF 'palmettelaw14.NormalFormSimplify'. -/
def normalFormSimplifyUptoCard : Claim7 := { stood := { row := normalFormSimplifyUptoRow, standIns := [], harness := (true, "b34367b6766db9b15241072c03d13b69d32278ff4c548e9c83bab996baa3ee98"), looks := true }, kinds := [], alts := [], laidByText := true, laidKinds := [.data, .data, .data, .sentinel, .sentinel, .listed, .data, .data, .data], laidTests := true, laidLooks := .later }
def NormalFormSimplifyUptoCardSaid : Prop := Claim7.holds Tryz.pinned (.plain (OpenSpec.upto normalFormSimplifySpec)) normalFormSimplifyUptoCard

/-- THE SECOND FORM's CARD OF 'palmettelaw14.NormalFormSimplifyShrinks'. -/
def normalFormSimplifyShrinksUptoCard : Claim7 := { stood := { row := normalFormSimplifyShrinksUptoRow, standIns := [], harness := (true, "b34367b6766db9b15241072c03d13b69d32278ff4c548e9c83bab996baa3ee98"), looks := true }, kinds := [], alts := [], laidByText := true, laidKinds := [.data, .data, .data, .sentinel, .sentinel, .listed, .data, .data, .data], laidTests := true, laidLooks := .later }
def NormalFormSimplifyShrinksUptoCardSaid : Prop := Claim7.holds Tryz.pinned (.plain (OpenSpec.upto normalFormSimplifyShrinksSpec)) normalFormSimplifyShrinksUptoCard

/-- THE SECOND FORM's CARD OF 'palmettelaw14.NormalFormLimits'. -/
def normalFormLimitsUptoCard : Claim7 := { stood := { row := normalFormLimitsUptoRow, standIns := [], harness := (true, "b34367b6766db9b15241072c03d13b69d32278ff4c548e9c83bab996baa3ee98"), looks := true }, kinds := [], alts := [], laidByText := true, laidKinds := [.data, .data, .data, .sentinel, .sentinel, .listed, .data, .data, .data], laidTests := true, laidLooks := .later }
def NormalFormLimitsUptoCardSaid : Prop := Claim7.holds Tryz.pinned (.plain (OpenSpec.upto normalFormLimitsSpec)) normalFormLimitsUptoCard
end Rows
end Go.Proofs.YtlaomcfiadmamaaGreatDoor
