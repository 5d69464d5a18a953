/-
  DERIVED. GIVEN WITH THE SEED: THE CARDS: each row of YtffamggcjijobaaDoorRows.lean that lists a variable, with what it lists TIED to the program's text (the seventh form; the later family's looks); each row that meets fmt, with fmt's text TOLD by the authors' own Lean function (tested against real Go, not proved from fmt's source: count such statements apart). THE CARD IS WHAT COUNTS. Prove the row's statement (the work); the ties are given (YtffamggcjijobaaDoorTie.lean); close each card by the builder's one call (the guide's Derived/Test/ToyasCard.lean, 'card_holds'). Laid BY PROGRAM, IN A SANDBOX (cutbox-door.mjs). By AI agents, Wed Nov 11 2026. No macro, syntax, notation, axiom, sorry.
-/
import Derived.Test.YtffamggcjijobaaDoorRows
import GoSem.ClaimSeven
namespace Go.Proofs.YtffamggcjijobaaDoor
namespace Rows

/-- THE TIED CARD OF 'laws.FnExactReadFormat'. -/
def fnExactReadFormatCard : Claim7 := { stood := { row := fnExactReadFormatRow, standIns := [], harness := (true, "4979ad9e20b4b051b5f9077308f4aebf08c1d73d579eeba81b7a1a32e091e0eb"), looks := true }, kinds := [], alts := [], laidByText := true, laidKinds := [.data], laidTests := true, laidLooks := .later }
def FnExactReadFormatCardSaid : Prop := Claim7.holds Tryd.pinned (.plain (OpenSpec.ofChange fnExactReadFormatSpec)) fnExactReadFormatCard

/-- THE TIED CARD OF 'laws.FnExactFormatCode'. -/
def fnExactFormatCodeCard : Claim7 := { stood := { row := fnExactFormatCodeRow, standIns := [], harness := (true, "4979ad9e20b4b051b5f9077308f4aebf08c1d73d579eeba81b7a1a32e091e0eb"), looks := true }, kinds := [], alts := [], laidByText := true, laidKinds := [.data], laidTests := true, laidLooks := .later }
def FnExactFormatCodeCardSaid : Prop := Claim7.holds Tryd.pinned (.plain (OpenSpec.ofChange fnExactFormatCodeSpec)) fnExactFormatCodeCard

/-- THE TIED CARD OF 'laws.FnDays'. -/
def fnDaysCard : Claim7 := { stood := { row := fnDaysRow, standIns := [], harness := (true, "4979ad9e20b4b051b5f9077308f4aebf08c1d73d579eeba81b7a1a32e091e0eb"), looks := true }, kinds := [], alts := [], laidByText := true, laidKinds := [.data, .data, .data, .sentinel, .sentinel, .data], laidTests := true, laidLooks := .later }
def FnDaysCardSaid : Prop := Claim7.holds Tryd.pinned (.plain (OpenSpec.ofChange fnDaysSpec)) fnDaysCard

/-- THE TIED CARD OF 'laws.FnAddresses'. -/
def fnAddressesCard : Claim7 := { stood := { row := fnAddressesRow, standIns := [], harness := (true, "4979ad9e20b4b051b5f9077308f4aebf08c1d73d579eeba81b7a1a32e091e0eb"), looks := true }, kinds := [], alts := [], laidByText := true, laidKinds := [.data, .data, .data, .sentinel, .sentinel], laidTests := true, laidLooks := .later }
def FnAddressesCardSaid : Prop := Claim7.holds Tryd.pinned (.plain (OpenSpec.ofChange fnAddressesSpec)) fnAddressesCard

/-- THE SECOND FORM's CARD OF 'laws.FnExactReadFormat'. -/
def fnExactReadFormatUptoCard : Claim7 := { stood := { row := fnExactReadFormatUptoRow, standIns := [], harness := (true, "4979ad9e20b4b051b5f9077308f4aebf08c1d73d579eeba81b7a1a32e091e0eb"), looks := true }, kinds := [], alts := [], laidByText := true, laidKinds := [.data], laidTests := true, laidLooks := .later }
def FnExactReadFormatUptoCardSaid : Prop := Claim7.holds Tryd.pinned (.plain (OpenSpec.upto fnExactReadFormatSpec)) fnExactReadFormatUptoCard

/-- THE SECOND FORM's CARD OF 'laws.FnExactFormatCode'. -/
def fnExactFormatCodeUptoCard : Claim7 := { stood := { row := fnExactFormatCodeUptoRow, standIns := [], harness := (true, "4979ad9e20b4b051b5f9077308f4aebf08c1d73d579eeba81b7a1a32e091e0eb"), looks := true }, kinds := [], alts := [], laidByText := true, laidKinds := [.data], laidTests := true, laidLooks := .later }
def FnExactFormatCodeUptoCardSaid : Prop := Claim7.holds Tryd.pinned (.plain (OpenSpec.upto fnExactFormatCodeSpec)) fnExactFormatCodeUptoCard

/-- THE SECOND FORM's CARD OF 'laws.FnDays'. -/
def fnDaysUptoCard : Claim7 := { stood := { row := fnDaysUptoRow, standIns := [], harness := (true, "4979ad9e20b4b051b5f9077308f4aebf08c1d73d579eeba81b7a1a32e091e0eb"), looks := true }, kinds := [], alts := [], laidByText := true, laidKinds := [.data, .data, .data, .sentinel, .sentinel, .data], laidTests := true, laidLooks := .later }
def FnDaysUptoCardSaid : Prop := Claim7.holds Tryd.pinned (.plain (OpenSpec.upto fnDaysSpec)) fnDaysUptoCard

/-- THE SECOND FORM's CARD OF 'laws.FnAddresses'. -/
def fnAddressesUptoCard : Claim7 := { stood := { row := fnAddressesUptoRow, standIns := [], harness := (true, "4979ad9e20b4b051b5f9077308f4aebf08c1d73d579eeba81b7a1a32e091e0eb"), looks := true }, kinds := [], alts := [], laidByText := true, laidKinds := [.data, .data, .data, .sentinel, .sentinel], laidTests := true, laidLooks := .later }
def FnAddressesUptoCardSaid : Prop := Claim7.holds Tryd.pinned (.plain (OpenSpec.upto fnAddressesSpec)) fnAddressesUptoCard
end Rows
end Go.Proofs.YtffamggcjijobaaDoor
