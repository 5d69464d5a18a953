/-
  DERIVED. GIVEN WITH THE SEED: THE CARDS: each row of YtgemcfmkhkijaaaDoorRows.lean that lists a variable, with what it lists TIED to the program's text (the seventh form; the later family's looks); each row that meets fmt, with fmt's text TOLD by the authors' own Lean function (tested against real Go, not proved from fmt's source: count such statements apart). THE CARD IS WHAT COUNTS. Prove the row's statement (the work); the ties are given (YtgemcfmkhkijaaaDoorTie.lean); close each card by the builder's one call (the guide's Derived/Test/ToyasCard.lean, 'card_holds'). Laid BY PROGRAM, IN A SANDBOX (cutbox-door.mjs). By AI agents, Wed Nov 11 2026. No macro, syntax, notation, axiom, sorry.
-/
import Derived.Test.YtgemcfmkhkijaaaDoorRows
import GoSem.ClaimSeven
namespace Go.Proofs.YtgemcfmkhkijaaaDoor
namespace Rows

/-- THE TIED CARD OF 'laws.FnExactWeekOf'. -/
def fnExactWeekOfCard : Claim7 := { stood := { row := fnExactWeekOfRow, standIns := [], harness := (true, "698cb2014d20db01b6d6f28c7b2bec3b9b4ab383f25c4d3d50a0e865df76c951"), looks := false }, kinds := [], alts := [], laidByText := true, laidKinds := [.data], laidTests := true, laidLooks := .later }
def FnExactWeekOfCardSaid : Prop := Claim7.holds Tryd.pinned (.plain (OpenSpec.ofChange fnExactWeekOfSpec)) fnExactWeekOfCard

/-- THE TIED CARD OF 'laws.FnExactDateOf'. -/
def fnExactDateOfCard : Claim7 := { stood := { row := fnExactDateOfRow, standIns := [], harness := (true, "698cb2014d20db01b6d6f28c7b2bec3b9b4ab383f25c4d3d50a0e865df76c951"), looks := false }, kinds := [], alts := [], laidByText := true, laidKinds := [.data], laidTests := true, laidLooks := .later }
def FnExactDateOfCardSaid : Prop := Claim7.holds Tryd.pinned (.plain (OpenSpec.ofChange fnExactDateOfSpec)) fnExactDateOfCard

/-- THE TIED CARD OF 'laws.FnExactBoolOf'. -/
def fnExactBoolOfCard : Claim7 := { stood := { row := fnExactBoolOfRow, standIns := [], harness := (true, "698cb2014d20db01b6d6f28c7b2bec3b9b4ab383f25c4d3d50a0e865df76c951"), looks := false }, kinds := [], alts := [], laidByText := true, laidKinds := [.data], laidTests := true, laidLooks := .later }
def FnExactBoolOfCardSaid : Prop := Claim7.holds Tryd.pinned (.plain (OpenSpec.ofChange fnExactBoolOfSpec)) fnExactBoolOfCard

/-- THE TIED CARD OF 'laws.FnExactGoodGrid'. -/
def fnExactGoodGridCard : Claim7 := { stood := { row := fnExactGoodGridRow, standIns := [], harness := (true, "698cb2014d20db01b6d6f28c7b2bec3b9b4ab383f25c4d3d50a0e865df76c951"), looks := false }, kinds := [], alts := [], laidByText := true, laidKinds := [.data], laidTests := true, laidLooks := .later }
def FnExactGoodGridCardSaid : Prop := Claim7.holds Tryd.pinned (.plain (OpenSpec.ofChange fnExactGoodGridSpec)) fnExactGoodGridCard

/-- THE SECOND FORM's CARD OF 'laws.FnExactWeekOf'. -/
def fnExactWeekOfUptoCard : Claim7 := { stood := { row := fnExactWeekOfUptoRow, standIns := [], harness := (true, "698cb2014d20db01b6d6f28c7b2bec3b9b4ab383f25c4d3d50a0e865df76c951"), looks := false }, kinds := [], alts := [], laidByText := true, laidKinds := [.data], laidTests := true, laidLooks := .later }
def FnExactWeekOfUptoCardSaid : Prop := Claim7.holds Tryd.pinned (.plain (OpenSpec.upto fnExactWeekOfSpec)) fnExactWeekOfUptoCard

/-- THE SECOND FORM's CARD OF 'laws.FnExactDateOf'. -/
def fnExactDateOfUptoCard : Claim7 := { stood := { row := fnExactDateOfUptoRow, standIns := [], harness := (true, "698cb2014d20db01b6d6f28c7b2bec3b9b4ab383f25c4d3d50a0e865df76c951"), looks := false }, kinds := [], alts := [], laidByText := true, laidKinds := [.data], laidTests := true, laidLooks := .later }
def FnExactDateOfUptoCardSaid : Prop := Claim7.holds Tryd.pinned (.plain (OpenSpec.upto fnExactDateOfSpec)) fnExactDateOfUptoCard

/-- THE SECOND FORM's CARD OF 'laws.FnExactBoolOf'. -/
def fnExactBoolOfUptoCard : Claim7 := { stood := { row := fnExactBoolOfUptoRow, standIns := [], harness := (true, "698cb2014d20db01b6d6f28c7b2bec3b9b4ab383f25c4d3d50a0e865df76c951"), looks := false }, kinds := [], alts := [], laidByText := true, laidKinds := [.data], laidTests := true, laidLooks := .later }
def FnExactBoolOfUptoCardSaid : Prop := Claim7.holds Tryd.pinned (.plain (OpenSpec.upto fnExactBoolOfSpec)) fnExactBoolOfUptoCard

/-- THE SECOND FORM's CARD OF 'laws.FnExactGoodGrid'. -/
def fnExactGoodGridUptoCard : Claim7 := { stood := { row := fnExactGoodGridUptoRow, standIns := [], harness := (true, "698cb2014d20db01b6d6f28c7b2bec3b9b4ab383f25c4d3d50a0e865df76c951"), looks := false }, kinds := [], alts := [], laidByText := true, laidKinds := [.data], laidTests := true, laidLooks := .later }
def FnExactGoodGridUptoCardSaid : Prop := Claim7.holds Tryd.pinned (.plain (OpenSpec.upto fnExactGoodGridSpec)) fnExactGoodGridUptoCard
end Rows
end Go.Proofs.YtgemcfmkhkijaaaDoor
