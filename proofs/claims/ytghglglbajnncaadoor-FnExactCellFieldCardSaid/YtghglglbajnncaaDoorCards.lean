/-
  DERIVED. GIVEN WITH THE SEED: THE CARDS: each row of YtghglglbajnncaaDoorRows.lean that lists a variable, with what it lists TIED to the program's text (the seventh form; the later family's looks); each row that meets fmt, with fmt's text TOLD by the authors' own Lean function (tested against real Go, not proved from fmt's source: count such statements apart). THE CARD IS WHAT COUNTS. Prove the row's statement (the work); the ties are given (YtghglglbajnncaaDoorTie.lean); close each card by the builder's one call (the guide's Derived/Test/ToyasCard.lean, 'card_holds'). Laid BY PROGRAM, IN A SANDBOX (cutbox-door.mjs). By AI agents, Wed Nov 11 2026. No macro, syntax, notation, axiom, sorry.
-/
import Derived.Test.YtghglglbajnncaaDoorRows
import GoSem.ClaimSeven
namespace Go.Proofs.YtghglglbajnncaaDoor
namespace Rows

/-- THE TIED CARD OF 'laws.FnExactTextOf'. -/
def fnExactTextOfCard : Claim7 := { stood := { row := fnExactTextOfRow, standIns := [], harness := (true, "1e35e32371b4654bd2de62f221f74662d1114a3130249dbc54a46f35977d66ae"), looks := true }, kinds := [], alts := [], laidByText := true, laidKinds := [.data, .data, .data, .data], laidTests := true, laidLooks := .later }
def FnExactTextOfCardSaid : Prop := Claim7.holds Tryd.pinned (.plain (OpenSpec.ofChange fnExactTextOfSpec)) fnExactTextOfCard

/-- THE TIED CARD OF 'laws.FnExactCellField'. -/
def fnExactCellFieldCard : Claim7 := { stood := { row := fnExactCellFieldRow, standIns := [], harness := (true, "1e35e32371b4654bd2de62f221f74662d1114a3130249dbc54a46f35977d66ae"), looks := true }, kinds := [], alts := [], laidByText := true, laidKinds := [.data, .data, .data, .data], laidTests := true, laidLooks := .later }
def FnExactCellFieldCardSaid : Prop := Claim7.holds Tryd.pinned (.plain (OpenSpec.ofChange fnExactCellFieldSpec)) fnExactCellFieldCard

/-- THE TIED CARD OF 'laws.FnExactReadRefBy'. -/
def fnExactReadRefByCard : Claim7 := { stood := { row := fnExactReadRefByRow, standIns := [], harness := (true, "1e35e32371b4654bd2de62f221f74662d1114a3130249dbc54a46f35977d66ae"), looks := true }, kinds := [], alts := [], laidByText := true, laidKinds := [.data, .data, .data, .sentinel, .sentinel], laidTests := true, laidLooks := .later }
def FnExactReadRefByCardSaid : Prop := Claim7.holds Tryd.pinned (.plain (OpenSpec.ofChange fnExactReadRefBySpec)) fnExactReadRefByCard

/-- THE TIED CARD OF 'laws.FnExactReadDate'. -/
def fnExactReadDateCard : Claim7 := { stood := { row := fnExactReadDateRow, standIns := [], harness := (true, "1e35e32371b4654bd2de62f221f74662d1114a3130249dbc54a46f35977d66ae"), looks := true }, kinds := [], alts := [], laidByText := true, laidKinds := [.data, .data, .data, .sentinel, .sentinel, .data], laidTests := true, laidLooks := .later }
def FnExactReadDateCardSaid : Prop := Claim7.holds Tryd.pinned (.plain (OpenSpec.ofChange fnExactReadDateSpec)) fnExactReadDateCard

/-- THE SECOND FORM's CARD OF 'laws.FnExactTextOf'. -/
def fnExactTextOfUptoCard : Claim7 := { stood := { row := fnExactTextOfUptoRow, standIns := [], harness := (true, "1e35e32371b4654bd2de62f221f74662d1114a3130249dbc54a46f35977d66ae"), looks := true }, kinds := [], alts := [], laidByText := true, laidKinds := [.data, .data, .data, .data], laidTests := true, laidLooks := .later }
def FnExactTextOfUptoCardSaid : Prop := Claim7.holds Tryd.pinned (.plain (OpenSpec.upto fnExactTextOfSpec)) fnExactTextOfUptoCard

/-- THE SECOND FORM's CARD OF 'laws.FnExactCellField'. -/
def fnExactCellFieldUptoCard : Claim7 := { stood := { row := fnExactCellFieldUptoRow, standIns := [], harness := (true, "1e35e32371b4654bd2de62f221f74662d1114a3130249dbc54a46f35977d66ae"), looks := true }, kinds := [], alts := [], laidByText := true, laidKinds := [.data, .data, .data, .data], laidTests := true, laidLooks := .later }
def FnExactCellFieldUptoCardSaid : Prop := Claim7.holds Tryd.pinned (.plain (OpenSpec.upto fnExactCellFieldSpec)) fnExactCellFieldUptoCard

/-- THE SECOND FORM's CARD OF 'laws.FnExactReadRefBy'. -/
def fnExactReadRefByUptoCard : Claim7 := { stood := { row := fnExactReadRefByUptoRow, standIns := [], harness := (true, "1e35e32371b4654bd2de62f221f74662d1114a3130249dbc54a46f35977d66ae"), looks := true }, kinds := [], alts := [], laidByText := true, laidKinds := [.data, .data, .data, .sentinel, .sentinel], laidTests := true, laidLooks := .later }
def FnExactReadRefByUptoCardSaid : Prop := Claim7.holds Tryd.pinned (.plain (OpenSpec.upto fnExactReadRefBySpec)) fnExactReadRefByUptoCard

/-- THE SECOND FORM's CARD OF 'laws.FnExactReadDate'. -/
def fnExactReadDateUptoCard : Claim7 := { stood := { row := fnExactReadDateUptoRow, standIns := [], harness := (true, "1e35e32371b4654bd2de62f221f74662d1114a3130249dbc54a46f35977d66ae"), looks := true }, kinds := [], alts := [], laidByText := true, laidKinds := [.data, .data, .data, .sentinel, .sentinel, .data], laidTests := true, laidLooks := .later }
def FnExactReadDateUptoCardSaid : Prop := Claim7.holds Tryd.pinned (.plain (OpenSpec.upto fnExactReadDateSpec)) fnExactReadDateUptoCard
end Rows
end Go.Proofs.YtghglglbajnncaaDoor
