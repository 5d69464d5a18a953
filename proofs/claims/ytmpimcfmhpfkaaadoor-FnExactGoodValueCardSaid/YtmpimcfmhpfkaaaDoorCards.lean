/-
  DERIVED. GIVEN WITH THE SEED: THE CARDS: each row of YtmpimcfmhpfkaaaDoorRows.lean that lists a variable, with what it lists TIED to the program's text (the seventh form; the later family's looks); each row that meets fmt, with fmt's text TOLD by the authors' own Lean function (tested against real Go, not proved from fmt's source: count such statements apart). THE CARD IS WHAT COUNTS. Prove the row's statement (the work); the ties are given (YtmpimcfmhpfkaaaDoorTie.lean); close each card by the builder's one call (the guide's Derived/Test/ToyasCard.lean, 'card_holds'). Laid BY PROGRAM, IN A SANDBOX (cutbox-door.mjs). By AI agents, Wed Nov 11 2026. No macro, syntax, notation, axiom, sorry.
-/
import Derived.Test.YtmpimcfmhpfkaaaDoorRows
import GoSem.ClaimSeven
namespace Go.Proofs.YtmpimcfmhpfkaaaDoor
namespace Rows

/-- THE TIED CARD OF 'laws.FnExactGoodValue'. -/
def fnExactGoodValueCard : Claim7 := { stood := { row := fnExactGoodValueRow, standIns := [], harness := (true, "857d41d62af43e9de53a0a05544dbb02e169706c54c1919a9a084b362fc4e0fa"), looks := false }, kinds := [], alts := [], laidByText := true, laidKinds := [.data], laidTests := true, laidLooks := .later }
def FnExactGoodValueCardSaid : Prop := Claim7.holds Tryd.pinned (.plain (OpenSpec.ofChange fnExactGoodValueSpec)) fnExactGoodValueCard

/-- THE TIED CARD OF 'laws.FnExactAddMonths'. -/
def fnExactAddMonthsCard : Claim7 := { stood := { row := fnExactAddMonthsRow, standIns := [], harness := (true, "857d41d62af43e9de53a0a05544dbb02e169706c54c1919a9a084b362fc4e0fa"), looks := false }, kinds := [], alts := [], laidByText := true, laidKinds := [.data], laidTests := true, laidLooks := .later }
def FnExactAddMonthsCardSaid : Prop := Claim7.holds Tryd.pinned (.plain (OpenSpec.ofChange fnExactAddMonthsSpec)) fnExactAddMonthsCard

/-- THE TIED CARD OF 'laws.FnExactDayOf'. -/
def fnExactDayOfCard : Claim7 := { stood := { row := fnExactDayOfRow, standIns := [], harness := (true, "857d41d62af43e9de53a0a05544dbb02e169706c54c1919a9a084b362fc4e0fa"), looks := false }, kinds := [], alts := [], laidByText := true, laidKinds := [.data], laidTests := true, laidLooks := .later }
def FnExactDayOfCardSaid : Prop := Claim7.holds Tryd.pinned (.plain (OpenSpec.ofChange fnExactDayOfSpec)) fnExactDayOfCard

/-- THE SECOND FORM's CARD OF 'laws.FnExactGoodValue'. -/
def fnExactGoodValueUptoCard : Claim7 := { stood := { row := fnExactGoodValueUptoRow, standIns := [], harness := (true, "857d41d62af43e9de53a0a05544dbb02e169706c54c1919a9a084b362fc4e0fa"), looks := false }, kinds := [], alts := [], laidByText := true, laidKinds := [.data], laidTests := true, laidLooks := .later }
def FnExactGoodValueUptoCardSaid : Prop := Claim7.holds Tryd.pinned (.plain (OpenSpec.upto fnExactGoodValueSpec)) fnExactGoodValueUptoCard

/-- THE SECOND FORM's CARD OF 'laws.FnExactAddMonths'. -/
def fnExactAddMonthsUptoCard : Claim7 := { stood := { row := fnExactAddMonthsUptoRow, standIns := [], harness := (true, "857d41d62af43e9de53a0a05544dbb02e169706c54c1919a9a084b362fc4e0fa"), looks := false }, kinds := [], alts := [], laidByText := true, laidKinds := [.data], laidTests := true, laidLooks := .later }
def FnExactAddMonthsUptoCardSaid : Prop := Claim7.holds Tryd.pinned (.plain (OpenSpec.upto fnExactAddMonthsSpec)) fnExactAddMonthsUptoCard

/-- THE SECOND FORM's CARD OF 'laws.FnExactDayOf'. -/
def fnExactDayOfUptoCard : Claim7 := { stood := { row := fnExactDayOfUptoRow, standIns := [], harness := (true, "857d41d62af43e9de53a0a05544dbb02e169706c54c1919a9a084b362fc4e0fa"), looks := false }, kinds := [], alts := [], laidByText := true, laidKinds := [.data], laidTests := true, laidLooks := .later }
def FnExactDayOfUptoCardSaid : Prop := Claim7.holds Tryd.pinned (.plain (OpenSpec.upto fnExactDayOfSpec)) fnExactDayOfUptoCard
end Rows
end Go.Proofs.YtmpimcfmhpfkaaaDoor
