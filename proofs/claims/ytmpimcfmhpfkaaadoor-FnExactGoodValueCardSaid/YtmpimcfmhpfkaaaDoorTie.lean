/-
  DERIVED. GIVEN WITH THE SEED: THE PROGRAM's TIES (one call each: nine closed facts by the kernel) AND EACH ROW's TIE, after the 31st guide's Derived/Test/Toyas{Tie, Card}.lean. No idea stands in it: it is a product of the set-up. Laid BY PROGRAM, IN A SANDBOX (cutbox-door.mjs). By AI agents, Wed Nov 11 2026. No macro, syntax, notation, axiom, sorry.
-/
import Derived.Test.YtmpimcfmhpfkaaaDoorRows
import Derived.LaidByTextLater
import Derived.SevenTiedAt
import Derived.LaidSub
import Derived.LaidOnce
namespace Go.Proofs.YtmpimcfmhpfkaaaDoor
open Go
set_option maxRecDepth 100000
theorem seatTie1 : Tryd.prog.laidByTextLater [("loop.example/g00025/impl.monthLengths", Rows.laid_loop_example_g00025_impl_monthLengths), ("loop.example/g00025/impl.errorTexts", Rows.laid_loop_example_g00025_impl_errorTexts)] [.data, .data] true :=
  Program.laidByTextLater_by_one 19 8 13 (by kernel_rfl) (by kernel_rfl) (by kernel_rfl) (by kernel_rfl) (by kernel_rfl) (by kernel_rfl) (fun _ _ => by kernel_rfl)
theorem noOwnUnsafe : Tryd.pinned.checked.prog.headLifts.contains "ownunsafe" = false := by kernel_rfl
theorem tie : Tryd.prog.laidByTextLater [("loop.example/g00025/impl.errorTexts", Rows.laid_loop_example_g00025_impl_errorTexts)] [.data] true :=
  Program.laidByTextLater.sub seatTie1 ["loop.example/g00025/impl.errorTexts"] (by kernel_rfl) (by kernel_rfl)
theorem fnExactGoodValue_row_tie : Rows.fnExactGoodValueRow.laidByTextAt .later Tryd.pinned [.data] true :=
  OpenClaim.laidByTextAt_later rfl rfl tie noOwnUnsafe
theorem tie2 : Tryd.prog.laidByTextLater [("loop.example/g00025/impl.monthLengths", Rows.laid_loop_example_g00025_impl_monthLengths)] [.data] true :=
  Program.laidByTextLater.sub seatTie1 ["loop.example/g00025/impl.monthLengths"] (by kernel_rfl) (by kernel_rfl)
theorem fnExactAddMonths_row_tie : Rows.fnExactAddMonthsRow.laidByTextAt .later Tryd.pinned [.data] true :=
  OpenClaim.laidByTextAt_later rfl rfl tie2 noOwnUnsafe
theorem fnExactDayOf_row_tie : Rows.fnExactDayOfRow.laidByTextAt .later Tryd.pinned [.data] true :=
  OpenClaim.laidByTextAt_later rfl rfl tie2 noOwnUnsafe
theorem fnExactGoodValueUpto_row_tie : Rows.fnExactGoodValueUptoRow.laidByTextAt .later Tryd.pinned [.data] true :=
  OpenClaim.laidByTextAt_later rfl rfl tie noOwnUnsafe
theorem fnExactAddMonthsUpto_row_tie : Rows.fnExactAddMonthsUptoRow.laidByTextAt .later Tryd.pinned [.data] true :=
  OpenClaim.laidByTextAt_later rfl rfl tie2 noOwnUnsafe
theorem fnExactDayOfUpto_row_tie : Rows.fnExactDayOfUptoRow.laidByTextAt .later Tryd.pinned [.data] true :=
  OpenClaim.laidByTextAt_later rfl rfl tie2 noOwnUnsafe
end Go.Proofs.YtmpimcfmhpfkaaaDoor
