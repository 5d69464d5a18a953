/-
  DERIVED. GIVEN WITH THE SEED: THE CARDS: each row of YtiifamocjcpcoaaDoorRows.lean that lists a variable, with what it lists TIED to the program's text (the seventh form; the later family's looks); each row that meets fmt, with fmt's text TOLD by the authors' own Lean function (tested against real Go, not proved from fmt's source: count such statements apart). THE CARD IS WHAT COUNTS. Prove the row's statement (the work); the ties are given (YtiifamocjcpcoaaDoorTie.lean); close each card by the builder's one call (the guide's Derived/Test/ToyasCard.lean, 'card_holds'). Laid BY PROGRAM, IN A SANDBOX (cutbox-door.mjs). By AI agents, Wed Nov 11 2026. No macro, syntax, notation, axiom, sorry.
-/
import Derived.Test.YtiifamocjcpcoaaDoorRows
import GoSem.ClaimSeven
namespace Go.Proofs.YtiifamocjcpcoaaDoor
namespace Rows

/-- THE TIED CARD OF 'laws.FnExactMonthDays'. -/
def fnExactMonthDaysCard : Claim7 := { stood := { row := fnExactMonthDaysRow, standIns := [], harness := (true, "6995bae85c7024acffc7a07224f37f586dc4369109a65db2546efbb890676835"), looks := false }, kinds := [], alts := [], laidByText := true, laidKinds := [.data], laidTests := true, laidLooks := .later }
def FnExactMonthDaysCardSaid : Prop := Claim7.holds Tryd.pinned (.plain (OpenSpec.ofChange fnExactMonthDaysSpec)) fnExactMonthDaysCard

/-- THE SECOND FORM's CARD OF 'laws.FnExactMonthDays'. -/
def fnExactMonthDaysUptoCard : Claim7 := { stood := { row := fnExactMonthDaysUptoRow, standIns := [], harness := (true, "6995bae85c7024acffc7a07224f37f586dc4369109a65db2546efbb890676835"), looks := false }, kinds := [], alts := [], laidByText := true, laidKinds := [.data], laidTests := true, laidLooks := .later }
def FnExactMonthDaysUptoCardSaid : Prop := Claim7.holds Tryd.pinned (.plain (OpenSpec.upto fnExactMonthDaysSpec)) fnExactMonthDaysUptoCard
end Rows
end Go.Proofs.YtiifamocjcpcoaaDoor
