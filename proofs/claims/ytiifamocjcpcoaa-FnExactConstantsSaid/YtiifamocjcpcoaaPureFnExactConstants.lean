/- The plain law of FnExactConstants: what the program computes is what the reference computes, for every input (no further condition). -/
import Derived.Test.YtiifamocjcpcoaaPFnExactConstantsx1
namespace Go.Proofs.Ytiifamocjcpcoaa.Pure
open Go.RowKit Go.Proofs.Ytiifamocjcpcoaa.PFnExactConstants Go.Proofs.YtiifamocjcpcoaaW.PrintWords Go.Proofs.YtiifamocjcpcoaaW.PrintLast

theorem FnExactConstants : laws_FnExactConstants.Pure := by
  first | rfl | (unfold laws_FnExactConstants.Pure laws_FnExactConstants.f; simp)

end Go.Proofs.Ytiifamocjcpcoaa.Pure
