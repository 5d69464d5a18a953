-- PRINTED BY print.sh 35421559b90ae4d0a3588c463048766b98c2df88dd9212a6774a882060cdf62d: not written by this session
import Derived.Test.YtiifamocjcpcoaaDoorProg
import Derived.Below
import Derived.Deep.Draws
import Derived.Deep.AppendLies
import Derived.Maps.AppendAt
import Derived.OwnWalk
import Derived.Laws.BytesArg
import Derived.Laws.MakeOwn
import Derived.Laws.OwnMore
import Derived.Deep.OwnRows
import Derived.Tactics
import Derived.Lib.ConvBytes
import Derived.Laws.Slices
import Derived.WalkKit
import Derived.KernelRfl
import Derived.RowKit3
import Derived.Deep.LoopGhost
import Derived.Deep.QuietTactic
import Derived.BigQuiet
import Derived.WideLaws
import Derived.Deep.DeepCutAuto
import Derived.Deep.CutBlock
import Derived.Deep.RegionHeld3
import Derived.Laws.Rows
import Derived.Lib.AppendStr
import Derived.ArgAppend
import Derived.Laws.IdiomCopy
import Derived.OrdersHeld
import Derived.Laws.BitsLemmas
import Derived.RowKit
import Derived.Test.YtiifamocjcpcoaaDoorWWords
import Derived.Test.YtiifamocjcpcoaaDoorWLast
import Derived.Test.YtiifamocjcpcoaaDoorWTab
import Derived.Test.YtiifamocjcpcoaaDoorWFour
import Derived.Test.YtiifamocjcpcoaaDoorWQPut
import Derived.Test.YtiifamocjcpcoaaDoorWApart
import Derived.Test.YtiifamocjcpcoaaDoorWArr
import Derived.Test.YtiifamocjcpcoaaDoorWZeros
import Derived.Test.YtiifamocjcpcoaaDoorWFoot
import Derived.Test.YtiifamocjcpcoaaDoorWKept
import Derived.Test.YtiifamocjcpcoaaDoorWShare
import Derived.Test.YtiifamocjcpcoaaDoorWN
import Derived.Test.YtiifamocjcpcoaaDoorWFootNe
import Derived.Test.YtiifamocjcpcoaaDoorWAt
import Derived.Test.YtiifamocjcpcoaaDoorWEqStruct
import Derived.Test.YtiifamocjcpcoaaDoorWRepsOne
import Derived.Test.YtiifamocjcpcoaaDoorWInv
import Derived.Test.YtiifamocjcpcoaaDoorWInvWords
import Derived.Test.YtiifamocjcpcoaaDoorWGuard
import Derived.Test.YtiifamocjcpcoaaDoorWNEv
import Derived.Test.YtiifamocjcpcoaaDoorWMore
namespace Go.Proofs.YtiifamocjcpcoaaDoor.PFnExactMonthDays
open Go.RowKit Go.Proofs.YtiifamocjcpcoaaDoorW.PrintWords Go.Proofs.YtiifamocjcpcoaaDoorW.PrintLast Go.Proofs.YtiifamocjcpcoaaDoorW.PrintMore
attribute [local go_sem] max2_int min2_int max_two min_two max_three min_three max_four min_four   -- for this text's walks alone
set_option linter.unusedVariables false
set_option linter.unusedSimpArgs false



def errW : Option Int → Value
  | none => .nilIface
  | some c => .iface 0 (.int .i64 c)
theorem errW_none : errW none = .nilIface := rfl
theorem errW_some (c : Int) : errW (some c) = .iface 0 (.int .i64 c) := rfl

theorem info3 : (Tryd.prog.info? 3).map (fun i => (i.zero, i.size, i.bytes)) = some (some (.int .i64 0), 1, 8) := by kernel_rfl
-- the values' own types

end Go.Proofs.YtiifamocjcpcoaaDoor.PFnExactMonthDays
