/- Functions of the program as Lean functions, and proofs that the Go code comes to their answers: for the law FnDays; made out of the print by a program of mine (compact.py). No conditions but each theorem's own. -/
import Derived.Test.YtffamggcjijobaaDoorMFnDaysa0
namespace Go.Proofs.YtffamggcjijobaaDoor.PFnDays
open List (map_toArray map_cons map_nil length_drop length_take set_cons_zero set_cons_succ setIfInBounds_toArray)
open Go.RowKit Go.Proofs.YtffamggcjijobaaDoorW.PrintWords Go.Proofs.YtffamggcjijobaaDoorW.PrintLast Go.Proofs.YtffamggcjijobaaDoorW.PrintMore
attribute [local go_sem] max2_int min2_int max_two min_two max_three min_three max_four min_four   -- for this text's walks alone
set_option linter.unusedVariables false
set_option linter.unusedSimpArgs false

attribute [local go_sem high] eqA36
def spec_l2DayOf.T1 : Bool × List (List Nat × List Nat) := (true, [([], []), ([0], [0]), ([1], [1]), ([2, 1], [2]), ([3], [3]), ([4, 3], [3, 4]), ([5, 3, 3], [3, 5]), ([6, 3], [3, 6]), ([3, 7], [3, 7]), ([8, 6], [8]), ([9], [9]), ([10, 9], [9, 10]), ([11, 9], [9, 11]), ([9, 12], [9, 12]), ([13, 9], [13]), ([14], [14]), ([15, 14], [14, 15]), ([16, 14], [14, 16]), ([14, 17], [14, 17]), ([18, 14], [18]), ([19], [19]), ([20, 19], [19, 20]), ([21, 19], [19, 21]), ([19, 22], [19, 22]), ([23, 19], [23]), ([24], [24]), ([25, 24], [24, 25]), ([24], [24]), ([24], [24]), ([28, 24], [24, 28]), ([24], [24]), ([30, 24], [24, 30]), ([27, 29, 31, 24, 24], [24, 27, 29, 31]), ([26, 32, 24], [24, 26, 32]), ([24, 33], [24, 33])])

def spec_l2DayOf.B1 : List Nat := [0, 1, 3, 7, 15, 31, 63, 127, 255, 511, 1023, 2047, 4095, 8191, 16383, 32767, 65535, 131071, 262143, 524287, 1048575, 2097151, 4194303, 8388607, 16777215, 33554431, 67108863, 33554431, 33554431, 301989887, 33554431, 1107296255, 4194303999, 8589934591, 17179869183]

theorem spec_l2DayOf.tab1 : rtab .any (opsOf Tryd.f74 1) = spec_l2DayOf.T1 := by kernel_rfl

theorem spec_l2DayOf.bits1 : waitsOk spec_l2DayOf.T1.2 spec_l2DayOf.B1 = true := by kernel_rfl

def spec_l2DayOf.T3 : Bool × List (List Nat × List Nat) := (true, [([], []), ([], []), ([1], [1]), ([0, 2], [0, 2]), ([], []), ([4], [4]), ([3, 5], [3, 5]), ([6], [6]), ([7, 3, 0, 1, 2, 3, 4, 5, 6, 7], [7])])

def spec_l2DayOf.B3 : List Nat := [0, 0, 2, 7, 0, 16, 63, 127, 255]

theorem spec_l2DayOf.tab3 : rtab .any (opsOf Tryd.f74 3) = spec_l2DayOf.T3 := by kernel_rfl

theorem spec_l2DayOf.bits3 : waitsOk spec_l2DayOf.T3.2 spec_l2DayOf.B3 = true := by kernel_rfl

end Go.Proofs.YtffamggcjijobaaDoor.PFnDays
