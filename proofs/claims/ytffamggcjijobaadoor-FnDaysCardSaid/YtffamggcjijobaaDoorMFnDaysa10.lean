/- Functions of the program as Lean functions, and proofs that the Go code comes to their answers: for the law FnDays; made out of the print by a program of mine (compact.py). No conditions but each theorem's own. -/
import Derived.Test.YtffamggcjijobaaDoorMFnDaysa0
import Derived.Test.YtffamggcjijobaaDoorMFnDaysa1
import Derived.Test.YtffamggcjijobaaDoorMFnDaysa7
import Derived.Test.YtffamggcjijobaaDoorMFnDaysa9
namespace Go.Proofs.YtffamggcjijobaaDoor.PFnDays
open List (map_toArray map_cons map_nil length_drop length_take set_cons_zero set_cons_succ setIfInBounds_toArray)
open Go.RowKit Go.Proofs.YtffamggcjijobaaDoorW.PrintWords Go.Proofs.YtffamggcjijobaaDoorW.PrintLast Go.Proofs.YtffamggcjijobaaDoorW.PrintMore
attribute [local go_sem] max2_int min2_int max_two min_two max_three min_three max_four min_four   -- for this text's walks alone
set_option linter.unusedVariables false
set_option linter.unusedSimpArgs false

attribute [local go_sem high] eqA36
set_option maxHeartbeats 8000000 in
set_option maxRecDepth 100000 in
theorem spec_l2DayOf.calls (k : Nat) (a0 : Int) (a1_0 : Int) (a1_1 : Int) (a1_2 : Int) (r1 : Int) (r2 : Bool) (w : World) (h : spec_l2DayOf.f k a0 a1_0 a1_1 a1_2 = some (r1, r2)) :
  Calls Tryd.prog 74 #[.int .i64 a0, .agg #[.int .i64 a1_0, .int .i64 a1_1, .int .i64 a1_2]] w fun e w' => e = .returned (.tuple #[.int .i64 r1, .bool r2]) ∧ Below w.heap.size w w' := by
 have H : ((spec_l2Cal.f a0).bind fun t348 => (if t348 = true then ((spec_l2Year.f a1_0).bind fun t349 => (if t349 = true then (if a1_1 < 1 then (spec_l2DayOf.j0 k a0 true a1_0 a1_1 a1_2) else (if a1_1 > 12 then (spec_l2DayOf.j0 k a0 true a1_0 a1_1 a1_2) else (if a1_2 < 1 then (spec_l2DayOf.j0 k a0 true a1_0 a1_1 a1_2) else ((spec_l2MonthDays.f a0 a1_0 a1_1).bind fun t350 => (spec_l2DayOf.j0 k a0 (decide (a1_2 > t350)) a1_0 a1_1 a1_2))))) else (spec_l2DayOf.j0 k a0 true a1_0 a1_1 a1_2))) else (spec_l2DayOf.j0 k a0 true a1_0 a1_1 a1_2))) = some (r1, r2) := h
 exact spec_l2DayOf.calls_p1 k a0 a1_0 a1_1 a1_2 r1 r2 w H

/-! ### spec_AddMonths: function 29 -/

def spec_AddMonths.j0 : Nat → Int → Int → Bool → Int → Int → Int → Option (Int × Int × Int)
 | 0, _, _, _, _, _, _ => none
 | k + 1, x0, x2, x27, x354000, x354001, x354002 => if x27 = true then (some (0, 0, 0)) else ((spec_l2Floor.f (wrap64 ((wrap64 ((wrap64 ((wrap64 (x354000 * 12)) + x354001)) - 1)) + x2)) 12).bind fun t357 => ((spec_l2Mod.f (wrap64 ((wrap64 ((wrap64 ((wrap64 (x354000 * 12)) + x354001)) - 1)) + x2)) 12).bind fun t358 => ((spec_l2Year.f t357).bind fun t360 => (if t360 = true then ((spec_l2MonthDays.f x0 t357 (wrap64 (1 + t358))).bind fun t361 => (if x354002 > t361 then (some (t357, wrap64 (1 + t358), t361)) else (some (t357, wrap64 (1 + t358), x354002)))) else (some (0, 0, 0))))))

def spec_AddMonths.f (k : Nat) (a0 : Int) (a1_0 : Int) (a1_1 : Int) (a1_2 : Int) (a2 : Int) : Option (Int × Int × Int) := (spec_l2DayOf.f k a0 a1_0 a1_1 a1_2).bind fun bt355 => (if bt355.2 = true then (if a2 < (-100000) then (spec_AddMonths.j0 k a0 a2 true a1_0 a1_1 a1_2) else (spec_AddMonths.j0 k a0 a2 (decide (a2 > 100000)) a1_0 a1_1 a1_2)) else (spec_AddMonths.j0 k a0 a2 true a1_0 a1_1 a1_2))

def spec_AddMonths.T5 : Bool × List (List Nat × List Nat) := (true, [([], []), ([0], [0]), ([], []), ([2, 1], [2]), ([3], [3]), ([], []), ([5], [5]), ([1, 4, 6], [1, 4, 6]), ([], []), ([8, 7, 3, 0, 1, 2, 3, 4, 5, 6, 7, 8], [7, 8])])

def spec_AddMonths.B5 : List Nat := [0, 1, 0, 7, 15, 0, 32, 127, 0, 511]

theorem spec_AddMonths.tab5 : rtab .any (opsOf Tryd.f29 5) = spec_AddMonths.T5 := by kernel_rfl

theorem spec_AddMonths.bits5 : waitsOk spec_AddMonths.T5.2 spec_AddMonths.B5 = true := by kernel_rfl

end Go.Proofs.YtffamggcjijobaaDoor.PFnDays
