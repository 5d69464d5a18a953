/-
  DERIVED. GIVEN WITH THE SEED: THE CARDS: each row of YtegdpgpbdcediaaGreatDoorRows.lean that lists a variable, with what it lists TIED to the program's text (the seventh form; the later family's looks); each row that meets fmt, with fmt's text TOLD by the authors' own Lean function (tested against real Go, not proved from fmt's source: count such statements apart). THE CARD IS WHAT COUNTS. Prove the row's statement (the work); the ties are given (YtegdpgpbdcediaaGreatDoorTie.lean); close each card by the builder's one call (the guide's Derived/Test/ToyasCard.lean, 'card_holds'). Laid BY PROGRAM, IN A SANDBOX (cutbox-door.mjs). By AI agents, Wed Nov 11 2026. No macro, syntax, notation, axiom, sorry.
-/
import Derived.Test.YtegdpgpbdcediaaGreatDoorRows
import GoSem.ClaimSeven
namespace Go.Proofs.YtegdpgpbdcediaaGreatDoor
namespace Rows

/-- THE TIED CARD OF 'laws.FnExactGoodFormula'. -/
def fnExactGoodFormulaCard : Claim7 := { stood := { row := fnExactGoodFormulaRow, standIns := [], harness := (true, "a0bd35ae6f81f6a65ff808d4404d8a160b2e88a6c123995029372d3d02a082a8"), looks := true }, kinds := [], alts := [], laidByText := true, laidKinds := [.data, .data, .data, .sentinel, .sentinel, .data], laidTests := true, laidLooks := .later }
def FnExactGoodFormulaCardSaid : Prop := Claim7.holds Tryz.pinned (.plain (OpenSpec.ofChange fnExactGoodFormulaSpec)) fnExactGoodFormulaCard

/-- THE TIED CARD OF 'laws.FnExactUsedNames'. -/
def fnExactUsedNamesCard : Claim7 := { stood := { row := fnExactUsedNamesRow, standIns := [], harness := (true, "a0bd35ae6f81f6a65ff808d4404d8a160b2e88a6c123995029372d3d02a082a8"), looks := true }, kinds := [], alts := [], laidByText := true, laidKinds := [.data, .data, .data, .sentinel, .sentinel, .data], laidTests := true, laidLooks := .later }
def FnExactUsedNamesCardSaid : Prop := Claim7.holds Tryz.pinned (.plain (OpenSpec.ofChange fnExactUsedNamesSpec)) fnExactUsedNamesCard

/-- THE TIED CARD OF 'laws.FnExactFilled'. -/
def fnExactFilledCard : Claim7 := { stood := { row := fnExactFilledRow, standIns := [], harness := (true, "a0bd35ae6f81f6a65ff808d4404d8a160b2e88a6c123995029372d3d02a082a8"), looks := true }, kinds := [], alts := [], laidByText := true, laidKinds := [.data, .data, .data, .sentinel, .sentinel, .data], laidTests := true, laidLooks := .later }
def FnExactFilledCardSaid : Prop := Claim7.holds Tryz.pinned (.plain (OpenSpec.ofChange fnExactFilledSpec)) fnExactFilledCard

/-- THE TIED CARD OF 'laws.FnExactUsedAreas'. -/
def fnExactUsedAreasCard : Claim7 := { stood := { row := fnExactUsedAreasRow, standIns := [], harness := (true, "a0bd35ae6f81f6a65ff808d4404d8a160b2e88a6c123995029372d3d02a082a8"), looks := true }, kinds := [], alts := [], laidByText := true, laidKinds := [.data, .data, .data, .sentinel, .sentinel, .data], laidTests := true, laidLooks := .later }
def FnExactUsedAreasCardSaid : Prop := Claim7.holds Tryz.pinned (.plain (OpenSpec.ofChange fnExactUsedAreasSpec)) fnExactUsedAreasCard

/-- THE TIED CARD OF 'laws.FnExactMoveFormula'. -/
def fnExactMoveFormulaCard : Claim7 := { stood := { row := fnExactMoveFormulaRow, standIns := [], harness := (true, "a0bd35ae6f81f6a65ff808d4404d8a160b2e88a6c123995029372d3d02a082a8"), looks := true }, kinds := [], alts := [], laidByText := true, laidKinds := [.data, .data, .data, .sentinel, .sentinel, .data], laidTests := true, laidLooks := .later }
def FnExactMoveFormulaCardSaid : Prop := Claim7.holds Tryz.pinned (.plain (OpenSpec.ofChange fnExactMoveFormulaSpec)) fnExactMoveFormulaCard

/-- THE TIED CARD OF 'laws.FnExactTurnFormula'. -/
def fnExactTurnFormulaCard : Claim7 := { stood := { row := fnExactTurnFormulaRow, standIns := [], harness := (true, "a0bd35ae6f81f6a65ff808d4404d8a160b2e88a6c123995029372d3d02a082a8"), looks := true }, kinds := [], alts := [], laidByText := true, laidKinds := [.data, .data, .data, .sentinel, .sentinel, .data], laidTests := true, laidLooks := .later }
def FnExactTurnFormulaCardSaid : Prop := Claim7.holds Tryz.pinned (.plain (OpenSpec.ofChange fnExactTurnFormulaSpec)) fnExactTurnFormulaCard

/-- THE SECOND FORM's CARD OF 'laws.FnExactGoodFormula'. -/
def fnExactGoodFormulaUptoCard : Claim7 := { stood := { row := fnExactGoodFormulaUptoRow, standIns := [], harness := (true, "a0bd35ae6f81f6a65ff808d4404d8a160b2e88a6c123995029372d3d02a082a8"), looks := true }, kinds := [], alts := [], laidByText := true, laidKinds := [.data, .data, .data, .sentinel, .sentinel, .data], laidTests := true, laidLooks := .later }
def FnExactGoodFormulaUptoCardSaid : Prop := Claim7.holds Tryz.pinned (.plain (OpenSpec.upto fnExactGoodFormulaSpec)) fnExactGoodFormulaUptoCard

/-- THE SECOND FORM's CARD OF 'laws.FnExactUsedNames'. -/
def fnExactUsedNamesUptoCard : Claim7 := { stood := { row := fnExactUsedNamesUptoRow, standIns := [], harness := (true, "a0bd35ae6f81f6a65ff808d4404d8a160b2e88a6c123995029372d3d02a082a8"), looks := true }, kinds := [], alts := [], laidByText := true, laidKinds := [.data, .data, .data, .sentinel, .sentinel, .data], laidTests := true, laidLooks := .later }
def FnExactUsedNamesUptoCardSaid : Prop := Claim7.holds Tryz.pinned (.plain (OpenSpec.upto fnExactUsedNamesSpec)) fnExactUsedNamesUptoCard

/-- THE SECOND FORM's CARD OF 'laws.FnExactFilled'. -/
def fnExactFilledUptoCard : Claim7 := { stood := { row := fnExactFilledUptoRow, standIns := [], harness := (true, "a0bd35ae6f81f6a65ff808d4404d8a160b2e88a6c123995029372d3d02a082a8"), looks := true }, kinds := [], alts := [], laidByText := true, laidKinds := [.data, .data, .data, .sentinel, .sentinel, .data], laidTests := true, laidLooks := .later }
def FnExactFilledUptoCardSaid : Prop := Claim7.holds Tryz.pinned (.plain (OpenSpec.upto fnExactFilledSpec)) fnExactFilledUptoCard

/-- THE SECOND FORM's CARD OF 'laws.FnExactUsedAreas'. -/
def fnExactUsedAreasUptoCard : Claim7 := { stood := { row := fnExactUsedAreasUptoRow, standIns := [], harness := (true, "a0bd35ae6f81f6a65ff808d4404d8a160b2e88a6c123995029372d3d02a082a8"), looks := true }, kinds := [], alts := [], laidByText := true, laidKinds := [.data, .data, .data, .sentinel, .sentinel, .data], laidTests := true, laidLooks := .later }
def FnExactUsedAreasUptoCardSaid : Prop := Claim7.holds Tryz.pinned (.plain (OpenSpec.upto fnExactUsedAreasSpec)) fnExactUsedAreasUptoCard

/-- THE SECOND FORM's CARD OF 'laws.FnExactMoveFormula'. -/
def fnExactMoveFormulaUptoCard : Claim7 := { stood := { row := fnExactMoveFormulaUptoRow, standIns := [], harness := (true, "a0bd35ae6f81f6a65ff808d4404d8a160b2e88a6c123995029372d3d02a082a8"), looks := true }, kinds := [], alts := [], laidByText := true, laidKinds := [.data, .data, .data, .sentinel, .sentinel, .data], laidTests := true, laidLooks := .later }
def FnExactMoveFormulaUptoCardSaid : Prop := Claim7.holds Tryz.pinned (.plain (OpenSpec.upto fnExactMoveFormulaSpec)) fnExactMoveFormulaUptoCard

/-- THE SECOND FORM's CARD OF 'laws.FnExactTurnFormula'. -/
def fnExactTurnFormulaUptoCard : Claim7 := { stood := { row := fnExactTurnFormulaUptoRow, standIns := [], harness := (true, "a0bd35ae6f81f6a65ff808d4404d8a160b2e88a6c123995029372d3d02a082a8"), looks := true }, kinds := [], alts := [], laidByText := true, laidKinds := [.data, .data, .data, .sentinel, .sentinel, .data], laidTests := true, laidLooks := .later }
def FnExactTurnFormulaUptoCardSaid : Prop := Claim7.holds Tryz.pinned (.plain (OpenSpec.upto fnExactTurnFormulaSpec)) fnExactTurnFormulaUptoCard
end Rows
end Go.Proofs.YtegdpgpbdcediaaGreatDoor
