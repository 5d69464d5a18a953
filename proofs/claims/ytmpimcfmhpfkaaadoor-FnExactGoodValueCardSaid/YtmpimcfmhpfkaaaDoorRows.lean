/-
  NARROWER THAN 'FOR EVERY INPUT', by the rows' own cells (each row's printed sentence says how): FnExactGoodValue: laid · FnExactAddMonths: laid · FnExactDayOf: laid.
  DERIVED. THE GIVEN ROWS OF THIS SEAT. 3 by the template 'for every input the law returns true; each argument reads behind the call as it read before'; 0 by the template 'total and deterministic' (their statements: YtmpimcfmhpfkaaaDoorTotals.lean).
  GIVEN WITH THE SEED: the statements are not yours to turn. If you find one false, say at which input.
  Laid BY PROGRAM, IN A SANDBOX (cutbox-rows.mjs): the forced cells as the released guide's own fill.sh prints them over the translation 57eede3df8179f9c… (all of the seat's roots in one cut). By AI agents, Wed Nov 11 2026. No macro, syntax, notation, axiom, sorry.
-/
import Derived.Test.YtmpimcfmhpfkaaaDoorChecked
import GoSem.Claim
import GoSem.ClaimJoined
import GoSem.ClaimMapViews
import Derived.JoinedTies
import Derived.KernelRfl
namespace Go.Proofs.YtmpimcfmhpfkaaaDoor
/- THE CELL 'sum', in the pinned program and in every row, IS THE sha256 OF THE DUMP (.gsa) THAT YtmpimcfmhpfkaaaDoorProg.lean LOADS. Nothing in Lean hashes anything: it is a label: what it is worth is what the hold of that sum in a sandbox is worth. -/
noncomputable def Tryd.pinned : Pinned := { name := "ytmpimcfmhpfkaaadoor", sum := "57eede3df8179f9cb9a180a336f0f7789f97da5e11bd3724244ffcde6b2004fc", checked := Tryd.checked }
namespace Rows
def none {H : Type} : Left H := { results := [], args := [] }

/- WHAT THE LISTED PACKAGE-LEVEL VARIABLES READ AS WHEN THE CALL BEGINS. Each datum BY PROGRAM (the guide's laid-datum.mjs) off the statement by which the dump's own 'gosem.cut.vars' lays the variable. In a bare row this is a premise. The card (YtmpimcfmhpfkaaaDoorCards.lean) ties it to the program's text. -/
def laid_loop_example_g00025_impl_errorTexts {H : Type} : DataW H := .agg [.lit (.string [35, 78, 85, 76, 76, 33]), .lit (.string [35, 68, 73, 86, 47, 48, 33]), .lit (.string [35, 86, 65, 76, 85, 69, 33]), .lit (.string [35, 82, 69, 70, 33]), .lit (.string [35, 78, 65, 77, 69, 63]), .lit (.string [35, 78, 85, 77, 33]), .lit (.string [35, 78, 47, 65]), .lit (.string [35, 83, 80, 73, 76, 76, 33]), .lit (.string [35, 67, 89, 67, 76, 69, 33])]
def laid_loop_example_g00025_impl_monthLengths {H : Type} : DataW H := .agg [.lit (.int .i64 31), .lit (.int .i64 28), .lit (.int .i64 31), .lit (.int .i64 30), .lit (.int .i64 31), .lit (.int .i64 30), .lit (.int .i64 31), .lit (.int .i64 31), .lit (.int .i64 30), .lit (.int .i64 31), .lit (.int .i64 30), .lit (.int .i64 31)]

/-- 'laws.FnExactGoodValue': WHATEVER THE INPUT: true; the input reads as it did. -/
def fnExactGoodValueSpec : ChangeSpec := { name := "fnExactGoodValue", vars := ["loop.example/g00025/impl.errorTexts"], fn := fun _ => fun
  | [d, g1] => { results := [.lit (.bool true)], args := [d], vars := [g1] }
  | _ => none }
def fnExactGoodValueRow : OpenClaim := { program := "ytmpimcfmhpfkaaadoor", sum := "57eede3df8179f9cb9a180a336f0f7789f97da5e11bd3724244ffcde6b2004fc", func := "loop.example/g00025/laws.FnExactGoodValue", spec := "fnExactGoodValue", named := ["loop.example/g00025/impl.errorTexts"], apart := false, laid := [("loop.example/g00025/impl.errorTexts", laid_loop_example_g00025_impl_errorTexts)] }
def FnExactGoodValueSaid : Prop := fnExactGoodValueRow.holds Tryd.pinned (OpenSpec.ofChange fnExactGoodValueSpec)

/-- ITS FALSE NEIGHBOUR: 'it returns false'. Refute it at one input. -/
def fnExactGoodValueWrong : ChangeSpec := { name := "fnExactGoodValue", vars := ["loop.example/g00025/impl.errorTexts"], fn := fun _ => fun
  | [d, g1] => { results := [.lit (.bool false)], args := [d], vars := [g1] }
  | _ => none }
def FnExactGoodValueWrongFalsely : Prop := fnExactGoodValueRow.holds Tryd.pinned (OpenSpec.ofChange fnExactGoodValueWrong)

/-- 'laws.FnExactAddMonths': WHATEVER THE INPUT: true; the input reads as it did. -/
def fnExactAddMonthsSpec : ChangeSpec := { name := "fnExactAddMonths", vars := ["loop.example/g00025/impl.monthLengths"], fn := fun _ => fun
  | [d1, d2, d3, g1] => { results := [.lit (.bool true)], args := [d1, d2, d3], vars := [g1] }
  | _ => none }
def fnExactAddMonthsRow : OpenClaim := { program := "ytmpimcfmhpfkaaadoor", sum := "57eede3df8179f9cb9a180a336f0f7789f97da5e11bd3724244ffcde6b2004fc", func := "loop.example/g00025/laws.FnExactAddMonths", spec := "fnExactAddMonths", named := ["loop.example/g00025/impl.monthLengths"], apart := false, laid := [("loop.example/g00025/impl.monthLengths", laid_loop_example_g00025_impl_monthLengths)] }
def FnExactAddMonthsSaid : Prop := fnExactAddMonthsRow.holds Tryd.pinned (OpenSpec.ofChange fnExactAddMonthsSpec)

/-- ITS FALSE NEIGHBOUR: 'it returns false'. Refute it at one input. -/
def fnExactAddMonthsWrong : ChangeSpec := { name := "fnExactAddMonths", vars := ["loop.example/g00025/impl.monthLengths"], fn := fun _ => fun
  | [d1, d2, d3, g1] => { results := [.lit (.bool false)], args := [d1, d2, d3], vars := [g1] }
  | _ => none }
def FnExactAddMonthsWrongFalsely : Prop := fnExactAddMonthsRow.holds Tryd.pinned (OpenSpec.ofChange fnExactAddMonthsWrong)

/-- 'laws.FnExactDayOf': WHATEVER THE INPUT: true; the input reads as it did. -/
def fnExactDayOfSpec : ChangeSpec := { name := "fnExactDayOf", vars := ["loop.example/g00025/impl.monthLengths"], fn := fun _ => fun
  | [d1, d2, g1] => { results := [.lit (.bool true)], args := [d1, d2], vars := [g1] }
  | _ => none }
def fnExactDayOfRow : OpenClaim := { program := "ytmpimcfmhpfkaaadoor", sum := "57eede3df8179f9cb9a180a336f0f7789f97da5e11bd3724244ffcde6b2004fc", func := "loop.example/g00025/laws.FnExactDayOf", spec := "fnExactDayOf", named := ["loop.example/g00025/impl.monthLengths"], apart := false, laid := [("loop.example/g00025/impl.monthLengths", laid_loop_example_g00025_impl_monthLengths)] }
def FnExactDayOfSaid : Prop := fnExactDayOfRow.holds Tryd.pinned (OpenSpec.ofChange fnExactDayOfSpec)

/-- ITS FALSE NEIGHBOUR: 'it returns false'. Refute it at one input. -/
def fnExactDayOfWrong : ChangeSpec := { name := "fnExactDayOf", vars := ["loop.example/g00025/impl.monthLengths"], fn := fun _ => fun
  | [d1, d2, g1] => { results := [.lit (.bool false)], args := [d1, d2], vars := [g1] }
  | _ => none }
def FnExactDayOfWrongFalsely : Prop := fnExactDayOfRow.holds Tryd.pinned (OpenSpec.ofChange fnExactDayOfWrong)

/- THE SECOND FORM. 'bulk': how many values and letters a reading holds, each counted each time it is reached (what is shared counts as often as it is met; a slice's spare places count too). A statement '..UptoSaid' is the law's where the arguments, and the package variables that the reading takes, are together of bulk at most 1048576: NARROWER than '..Said'. Prove '..Said' where nothing that the law and all that it calls make is longer than what came in: it says more and counts as full. Else prove '..UptoSaid'. A law counts once. -/
mutual
def uptoBulk {H : Type} : DataW H → Nat
  | .lit (.string bytes) => bytes.length + 1
  | .lit _ => 1
  | .nil => 1
  | .ptr d => uptoBulk d + 1
  | .slice elems spare => uptoBulkAll elems + uptoBulkAll spare + 1
  | .agg parts => uptoBulkAll parts + 1
  | .iface _ d => uptoBulk d + 1
  | .map entries => uptoBulkEntries entries + 1
  | .held _ => 1
def uptoBulkAll {H : Type} : List (DataW H) → Nat
  | [] => 0
  | d :: r => uptoBulk d + uptoBulkAll r
def uptoBulkEntries {H : Type} : List (Lit × DataW H) → Nat
  | [] => 0
  | x :: r => uptoBulkEntry x + uptoBulkEntries r
def uptoBulkEntry {H : Type} : Lit × DataW H → Nat
  | (.string bytes, d) => bytes.length + uptoBulk d + 1
  | (_, d) => uptoBulk d + 1
 end
def uptoSmall : (H : Type) → List (DataW H) → Bool := fun _ ds => decide (uptoBulkAll ds ≤ 1048576)
def OpenSpec.upto (s : _root_.Go.ChangeSpec) : _root_.Go.OpenSpec := { _root_.Go.OpenSpec.ofChange s with cond := some uptoSmall }

/-- 'laws.FnExactGoodValue', WHERE WHAT IT READS IS OF BULK AT MOST 1048576: true; the input reads as it did. -/
def fnExactGoodValueUptoRow : OpenClaim := { program := "ytmpimcfmhpfkaaadoor", sum := "57eede3df8179f9cb9a180a336f0f7789f97da5e11bd3724244ffcde6b2004fc", func := "loop.example/g00025/laws.FnExactGoodValue", spec := "fnExactGoodValue", named := ["loop.example/g00025/impl.errorTexts"], apart := false, laid := [("loop.example/g00025/impl.errorTexts", laid_loop_example_g00025_impl_errorTexts)], narrowed := true }
def FnExactGoodValueUptoSaid : Prop := fnExactGoodValueUptoRow.holds Tryd.pinned (OpenSpec.upto fnExactGoodValueSpec)

/-- 'laws.FnExactAddMonths', WHERE WHAT IT READS IS OF BULK AT MOST 1048576: true; the input reads as it did. -/
def fnExactAddMonthsUptoRow : OpenClaim := { program := "ytmpimcfmhpfkaaadoor", sum := "57eede3df8179f9cb9a180a336f0f7789f97da5e11bd3724244ffcde6b2004fc", func := "loop.example/g00025/laws.FnExactAddMonths", spec := "fnExactAddMonths", named := ["loop.example/g00025/impl.monthLengths"], apart := false, laid := [("loop.example/g00025/impl.monthLengths", laid_loop_example_g00025_impl_monthLengths)], narrowed := true }
def FnExactAddMonthsUptoSaid : Prop := fnExactAddMonthsUptoRow.holds Tryd.pinned (OpenSpec.upto fnExactAddMonthsSpec)

/-- 'laws.FnExactDayOf', WHERE WHAT IT READS IS OF BULK AT MOST 1048576: true; the input reads as it did. -/
def fnExactDayOfUptoRow : OpenClaim := { program := "ytmpimcfmhpfkaaadoor", sum := "57eede3df8179f9cb9a180a336f0f7789f97da5e11bd3724244ffcde6b2004fc", func := "loop.example/g00025/laws.FnExactDayOf", spec := "fnExactDayOf", named := ["loop.example/g00025/impl.monthLengths"], apart := false, laid := [("loop.example/g00025/impl.monthLengths", laid_loop_example_g00025_impl_monthLengths)], narrowed := true }
def FnExactDayOfUptoSaid : Prop := fnExactDayOfUptoRow.holds Tryd.pinned (OpenSpec.upto fnExactDayOfSpec)

end Rows
end Go.Proofs.YtmpimcfmhpfkaaaDoor
