/- Functions of the program as Lean functions, and proofs that the Go code comes to their answers: for the law FnExactCellField; made out of the print by a program of mine (doorprint.py), with walks of my own in the place of some functions. No conditions but each theorem's own. -/
import Derived.Test.YtghglglbajnncaaDoorMFnExactCellFielda0
import Derived.Test.YtghglglbajnncaaDoorMFnExactCellFielda1
namespace Go.Proofs.YtghglglbajnncaaDoor.PFnExactCellField
open Go.RowKit Go.Proofs.YtghglglbajnncaaDoorW.PrintWords Go.Proofs.YtghglglbajnncaaDoorW.PrintLast Go.Proofs.YtghglglbajnncaaDoorW.PrintMore
attribute [local go_sem] max2_int min2_int max_two min_two max_three min_three max_four min_four   -- for this text's walks alone
set_option linter.unusedVariables false
set_option linter.unusedSimpArgs false

theorem eqA29 (d : Nat) (w : World) (x0 y0 : Int) (x1 y1 : Bool) (x2 y2 : Int) (x3 y3 : Int) (x4 y4 : ByteArray) :
    (Op.equalIn (d + 3) 29 (.agg #[.int .i64 x0, .bool x1, .int .i64 x2, .int .i64 x3, .string x4]) (.agg #[.int .i64 y0, .bool y1, .int .i64 y2, .int .i64 y3, .string y4])).run Tryd.prog w = .ok (x0 == y0 && ((x1 == y1 && (x2 == y2 && (x3 == y3))) && (x4.toList == y4.toList))) w := by
  refine eqA_of Tryd.underlying29 (by kernel_rfl) ?_
  refine eqf_cons (by rfl) (by go_simp; rfl) (by go_simp; rfl) (by go_simp) ?_
  refine eqf_cons (by rfl) (by go_simp) (by go_simp) (eqA27 (d + 0) w _ _ _ _ _ _) ?_
  exact eqf_last (by rfl) (by go_simp; rfl) (by go_simp; rfl) (by go_simp)
end Go.Proofs.YtghglglbajnncaaDoor.PFnExactCellField
