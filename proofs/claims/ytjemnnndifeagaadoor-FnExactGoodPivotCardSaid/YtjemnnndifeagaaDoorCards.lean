/-
  DERIVED. GIVEN WITH THE SEED: THE CARDS: each row of YtjemnnndifeagaaDoorRows.lean that lists a variable, with what it lists TIED to the program's text (the seventh form; the later family's looks); each row that meets fmt, with fmt's text TOLD by the authors' own Lean function (tested against real Go, not proved from fmt's source: count such statements apart). THE CARD IS WHAT COUNTS. Prove the row's statement (the work); the ties are given (YtjemnnndifeagaaDoorTie.lean); close each card by the builder's one call (the guide's Derived/Test/ToyasCard.lean, 'card_holds'). Laid BY PROGRAM, IN A SANDBOX (cutbox-door.mjs). By AI agents, Wed Nov 11 2026. No macro, syntax, notation, axiom, sorry.
-/
import Derived.Test.YtjemnnndifeagaaDoorRows
import GoSem.ClaimSeven
namespace Go.Proofs.YtjemnnndifeagaaDoor
namespace Rows

/-- THE TIED CARD OF 'laws.FnExactGoodPivot'. -/
def fnExactGoodPivotCard : Claim7 := { stood := { row := fnExactGoodPivotRow, standIns := [], harness := (true, "dd1b1a20a4be130f01849f299c7b36fa3f5cb5b3d71fb95118d8020aa1f8eb24"), looks := true }, kinds := [], alts := [], laidByText := true, laidKinds := [.data], laidTests := true, laidLooks := .later }
def FnExactGoodPivotCardSaid : Prop := Claim7.holds Tryd.pinned (.plain (OpenSpec.ofChange fnExactGoodPivotSpec)) fnExactGoodPivotCard

/-- THE TIED CARD OF 'laws.FnExactReadFormat'. -/
def fnExactReadFormatCard : Claim7 := { stood := { row := fnExactReadFormatRow, standIns := [], harness := (true, "dd1b1a20a4be130f01849f299c7b36fa3f5cb5b3d71fb95118d8020aa1f8eb24"), looks := true }, kinds := [], alts := [], laidByText := true, laidKinds := [.data], laidTests := true, laidLooks := .later }
def FnExactReadFormatCardSaid : Prop := Claim7.holds Tryd.pinned (.plain (OpenSpec.ofChange fnExactReadFormatSpec)) fnExactReadFormatCard

/-- THE TIED CARD OF 'laws.FnExactRefTextBy'. -/
def fnExactRefTextByCard : Claim7 := { stood := { row := fnExactRefTextByRow, standIns := [], harness := (true, "dd1b1a20a4be130f01849f299c7b36fa3f5cb5b3d71fb95118d8020aa1f8eb24"), looks := true }, kinds := [], alts := [], laidByText := true, laidKinds := [.data, .data, .data], laidTests := true, laidLooks := .later }
def FnExactRefTextByCardSaid : Prop := Claim7.holds Tryd.pinned (.plain (OpenSpec.ofChange fnExactRefTextBySpec)) fnExactRefTextByCard

/-- THE TIED CARD OF 'laws.FnExactDateText'. -/
def fnExactDateTextCard : Claim7 := { stood := { row := fnExactDateTextRow, standIns := [], harness := (true, "dd1b1a20a4be130f01849f299c7b36fa3f5cb5b3d71fb95118d8020aa1f8eb24"), looks := true }, kinds := [], alts := [], laidByText := true, laidKinds := [.data, .data, .data], laidTests := true, laidLooks := .later }
def FnExactDateTextCardSaid : Prop := Claim7.holds Tryd.pinned (.plain (OpenSpec.ofChange fnExactDateTextSpec)) fnExactDateTextCard

/-- THE TIED CARD OF 'laws.FnExactRefText'. -/
def fnExactRefTextCard : Claim7 := { stood := { row := fnExactRefTextRow, standIns := [], harness := (true, "dd1b1a20a4be130f01849f299c7b36fa3f5cb5b3d71fb95118d8020aa1f8eb24"), looks := true }, kinds := [], alts := [], laidByText := true, laidKinds := [.data, .data, .data], laidTests := true, laidLooks := .later }
def FnExactRefTextCardSaid : Prop := Claim7.holds Tryd.pinned (.plain (OpenSpec.ofChange fnExactRefTextSpec)) fnExactRefTextCard

/-- THE TIED CARD OF 'laws.FnExactDecText'. -/
def fnExactDecTextCard : Claim7 := { stood := { row := fnExactDecTextRow, standIns := [], harness := (true, "dd1b1a20a4be130f01849f299c7b36fa3f5cb5b3d71fb95118d8020aa1f8eb24"), looks := true }, kinds := [], alts := [], laidByText := true, laidKinds := [.data, .data, .data], laidTests := true, laidLooks := .later }
def FnExactDecTextCardSaid : Prop := Claim7.holds Tryd.pinned (.plain (OpenSpec.ofChange fnExactDecTextSpec)) fnExactDecTextCard

/-- THE TIED CARD OF 'laws.FnExactFormatCode'. -/
def fnExactFormatCodeCard : Claim7 := { stood := { row := fnExactFormatCodeRow, standIns := [], harness := (true, "dd1b1a20a4be130f01849f299c7b36fa3f5cb5b3d71fb95118d8020aa1f8eb24"), looks := true }, kinds := [], alts := [], laidByText := true, laidKinds := [.data], laidTests := true, laidLooks := .later }
def FnExactFormatCodeCardSaid : Prop := Claim7.holds Tryd.pinned (.plain (OpenSpec.ofChange fnExactFormatCodeSpec)) fnExactFormatCodeCard

/-- THE TIED CARD OF 'laws.FnExactReadRef'. -/
def fnExactReadRefCard : Claim7 := { stood := { row := fnExactReadRefRow, standIns := [], harness := (true, "dd1b1a20a4be130f01849f299c7b36fa3f5cb5b3d71fb95118d8020aa1f8eb24"), looks := true }, kinds := [], alts := [], laidByText := true, laidKinds := [.data, .data, .data, .sentinel, .sentinel], laidTests := true, laidLooks := .later }
def FnExactReadRefCardSaid : Prop := Claim7.holds Tryd.pinned (.plain (OpenSpec.ofChange fnExactReadRefSpec)) fnExactReadRefCard

/-- THE TIED CARD OF 'laws.FnExactShowValue'. -/
def fnExactShowValueCard : Claim7 := { stood := { row := fnExactShowValueRow, standIns := [], harness := (true, "dd1b1a20a4be130f01849f299c7b36fa3f5cb5b3d71fb95118d8020aa1f8eb24"), looks := true }, kinds := [], alts := [], laidByText := true, laidKinds := [.data, .data, .data, .data], laidTests := true, laidLooks := .later }
def FnExactShowValueCardSaid : Prop := Claim7.holds Tryd.pinned (.plain (OpenSpec.ofChange fnExactShowValueSpec)) fnExactShowValueCard

/-- THE SECOND FORM's CARD OF 'laws.FnExactGoodPivot'. -/
def fnExactGoodPivotUptoCard : Claim7 := { stood := { row := fnExactGoodPivotUptoRow, standIns := [], harness := (true, "dd1b1a20a4be130f01849f299c7b36fa3f5cb5b3d71fb95118d8020aa1f8eb24"), looks := true }, kinds := [], alts := [], laidByText := true, laidKinds := [.data], laidTests := true, laidLooks := .later }
def FnExactGoodPivotUptoCardSaid : Prop := Claim7.holds Tryd.pinned (.plain (OpenSpec.upto fnExactGoodPivotSpec)) fnExactGoodPivotUptoCard

/-- THE SECOND FORM's CARD OF 'laws.FnExactReadFormat'. -/
def fnExactReadFormatUptoCard : Claim7 := { stood := { row := fnExactReadFormatUptoRow, standIns := [], harness := (true, "dd1b1a20a4be130f01849f299c7b36fa3f5cb5b3d71fb95118d8020aa1f8eb24"), looks := true }, kinds := [], alts := [], laidByText := true, laidKinds := [.data], laidTests := true, laidLooks := .later }
def FnExactReadFormatUptoCardSaid : Prop := Claim7.holds Tryd.pinned (.plain (OpenSpec.upto fnExactReadFormatSpec)) fnExactReadFormatUptoCard

/-- THE SECOND FORM's CARD OF 'laws.FnExactRefTextBy'. -/
def fnExactRefTextByUptoCard : Claim7 := { stood := { row := fnExactRefTextByUptoRow, standIns := [], harness := (true, "dd1b1a20a4be130f01849f299c7b36fa3f5cb5b3d71fb95118d8020aa1f8eb24"), looks := true }, kinds := [], alts := [], laidByText := true, laidKinds := [.data, .data, .data], laidTests := true, laidLooks := .later }
def FnExactRefTextByUptoCardSaid : Prop := Claim7.holds Tryd.pinned (.plain (OpenSpec.upto fnExactRefTextBySpec)) fnExactRefTextByUptoCard

/-- THE SECOND FORM's CARD OF 'laws.FnExactDateText'. -/
def fnExactDateTextUptoCard : Claim7 := { stood := { row := fnExactDateTextUptoRow, standIns := [], harness := (true, "dd1b1a20a4be130f01849f299c7b36fa3f5cb5b3d71fb95118d8020aa1f8eb24"), looks := true }, kinds := [], alts := [], laidByText := true, laidKinds := [.data, .data, .data], laidTests := true, laidLooks := .later }
def FnExactDateTextUptoCardSaid : Prop := Claim7.holds Tryd.pinned (.plain (OpenSpec.upto fnExactDateTextSpec)) fnExactDateTextUptoCard

/-- THE SECOND FORM's CARD OF 'laws.FnExactRefText'. -/
def fnExactRefTextUptoCard : Claim7 := { stood := { row := fnExactRefTextUptoRow, standIns := [], harness := (true, "dd1b1a20a4be130f01849f299c7b36fa3f5cb5b3d71fb95118d8020aa1f8eb24"), looks := true }, kinds := [], alts := [], laidByText := true, laidKinds := [.data, .data, .data], laidTests := true, laidLooks := .later }
def FnExactRefTextUptoCardSaid : Prop := Claim7.holds Tryd.pinned (.plain (OpenSpec.upto fnExactRefTextSpec)) fnExactRefTextUptoCard

/-- THE SECOND FORM's CARD OF 'laws.FnExactDecText'. -/
def fnExactDecTextUptoCard : Claim7 := { stood := { row := fnExactDecTextUptoRow, standIns := [], harness := (true, "dd1b1a20a4be130f01849f299c7b36fa3f5cb5b3d71fb95118d8020aa1f8eb24"), looks := true }, kinds := [], alts := [], laidByText := true, laidKinds := [.data, .data, .data], laidTests := true, laidLooks := .later }
def FnExactDecTextUptoCardSaid : Prop := Claim7.holds Tryd.pinned (.plain (OpenSpec.upto fnExactDecTextSpec)) fnExactDecTextUptoCard

/-- THE SECOND FORM's CARD OF 'laws.FnExactFormatCode'. -/
def fnExactFormatCodeUptoCard : Claim7 := { stood := { row := fnExactFormatCodeUptoRow, standIns := [], harness := (true, "dd1b1a20a4be130f01849f299c7b36fa3f5cb5b3d71fb95118d8020aa1f8eb24"), looks := true }, kinds := [], alts := [], laidByText := true, laidKinds := [.data], laidTests := true, laidLooks := .later }
def FnExactFormatCodeUptoCardSaid : Prop := Claim7.holds Tryd.pinned (.plain (OpenSpec.upto fnExactFormatCodeSpec)) fnExactFormatCodeUptoCard

/-- THE SECOND FORM's CARD OF 'laws.FnExactReadRef'. -/
def fnExactReadRefUptoCard : Claim7 := { stood := { row := fnExactReadRefUptoRow, standIns := [], harness := (true, "dd1b1a20a4be130f01849f299c7b36fa3f5cb5b3d71fb95118d8020aa1f8eb24"), looks := true }, kinds := [], alts := [], laidByText := true, laidKinds := [.data, .data, .data, .sentinel, .sentinel], laidTests := true, laidLooks := .later }
def FnExactReadRefUptoCardSaid : Prop := Claim7.holds Tryd.pinned (.plain (OpenSpec.upto fnExactReadRefSpec)) fnExactReadRefUptoCard

/-- THE SECOND FORM's CARD OF 'laws.FnExactShowValue'. -/
def fnExactShowValueUptoCard : Claim7 := { stood := { row := fnExactShowValueUptoRow, standIns := [], harness := (true, "dd1b1a20a4be130f01849f299c7b36fa3f5cb5b3d71fb95118d8020aa1f8eb24"), looks := true }, kinds := [], alts := [], laidByText := true, laidKinds := [.data, .data, .data, .data], laidTests := true, laidLooks := .later }
def FnExactShowValueUptoCardSaid : Prop := Claim7.holds Tryd.pinned (.plain (OpenSpec.upto fnExactShowValueSpec)) fnExactShowValueUptoCard
end Rows
end Go.Proofs.YtjemnnndifeagaaDoor
