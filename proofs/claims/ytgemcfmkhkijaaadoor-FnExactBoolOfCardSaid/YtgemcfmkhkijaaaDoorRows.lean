/-
  NARROWER THAN 'FOR EVERY INPUT', by the rows' own cells (each row's printed sentence says how): FnExactWeekOf: laid · FnExactDateOf: laid · FnExactBoolOf: laid · FnExactGoodGrid: laid.
  DERIVED. THE GIVEN ROWS OF THIS SEAT. 4 by the template 'for every input the law returns true; each argument reads behind the call as it read before'; 0 by the template 'total and deterministic' (their statements: YtgemcfmkhkijaaaDoorTotals.lean).
  GIVEN WITH THE SEED: the statements are not yours to turn. If you find one false, say at which input.
  Laid BY PROGRAM, IN A SANDBOX (cutbox-rows.mjs): the forced cells as the released guide's own fill.sh prints them over the translation bb02936de432ee88… (all of the seat's roots in one cut). By AI agents, Wed Nov 11 2026. No macro, syntax, notation, axiom, sorry.
-/
import Derived.Test.YtgemcfmkhkijaaaDoorChecked
import GoSem.Claim
import GoSem.ClaimJoined
import GoSem.ClaimMapViews
import Derived.JoinedTies
import Derived.KernelRfl
namespace Go.Proofs.YtgemcfmkhkijaaaDoor
/- THE CELL 'sum', in the pinned program and in every row, IS THE sha256 OF THE DUMP (.gsa) THAT YtgemcfmkhkijaaaDoorProg.lean LOADS. Nothing in Lean hashes anything: it is a label: what it is worth is what the hold of that sum in a sandbox is worth. -/
noncomputable def Tryd.pinned : Pinned := { name := "ytgemcfmkhkijaaadoor", sum := "bb02936de432ee88133165be8204f2d8f89cf985133b0daa728328ff582d69b7", checked := Tryd.checked }
namespace Rows
def none {H : Type} : Left H := { results := [], args := [] }

/- WHAT THE LISTED PACKAGE-LEVEL VARIABLES READ AS WHEN THE CALL BEGINS. Each datum BY PROGRAM (the guide's laid-datum.mjs) off the statement by which the dump's own 'gosem.cut.vars' lays the variable. In a bare row this is a premise. The card (YtgemcfmkhkijaaaDoorCards.lean) ties it to the program's text. -/
def laid_loop_example_g00025_impl_monthLengths {H : Type} : DataW H := .agg [.lit (.int .i64 31), .lit (.int .i64 28), .lit (.int .i64 31), .lit (.int .i64 30), .lit (.int .i64 31), .lit (.int .i64 30), .lit (.int .i64 31), .lit (.int .i64 31), .lit (.int .i64 30), .lit (.int .i64 31), .lit (.int .i64 30), .lit (.int .i64 31)]
def laid_loop_example_g00025_impl_errorTexts {H : Type} : DataW H := .agg [.lit (.string [35, 78, 85, 76, 76, 33]), .lit (.string [35, 68, 73, 86, 47, 48, 33]), .lit (.string [35, 86, 65, 76, 85, 69, 33]), .lit (.string [35, 82, 69, 70, 33]), .lit (.string [35, 78, 65, 77, 69, 63]), .lit (.string [35, 78, 85, 77, 33]), .lit (.string [35, 78, 47, 65]), .lit (.string [35, 83, 80, 73, 76, 76, 33]), .lit (.string [35, 67, 89, 67, 76, 69, 33])]

/-- 'laws.FnExactWeekOf': WHATEVER THE INPUT: true; the input reads as it did. -/
def fnExactWeekOfSpec : ChangeSpec := { name := "fnExactWeekOf", vars := ["loop.example/g00025/impl.monthLengths"], fn := fun _ => fun
  | [d, g1] => { results := [.lit (.bool true)], args := [d], vars := [g1] }
  | _ => none }
def fnExactWeekOfRow : OpenClaim := { program := "ytgemcfmkhkijaaadoor", sum := "bb02936de432ee88133165be8204f2d8f89cf985133b0daa728328ff582d69b7", func := "loop.example/g00025/laws.FnExactWeekOf", spec := "fnExactWeekOf", named := ["loop.example/g00025/impl.monthLengths"], apart := false, laid := [("loop.example/g00025/impl.monthLengths", laid_loop_example_g00025_impl_monthLengths)] }
def FnExactWeekOfSaid : Prop := fnExactWeekOfRow.holds Tryd.pinned (OpenSpec.ofChange fnExactWeekOfSpec)

/-- ITS FALSE NEIGHBOUR: 'it returns false'. Refute it at one input. -/
def fnExactWeekOfWrong : ChangeSpec := { name := "fnExactWeekOf", vars := ["loop.example/g00025/impl.monthLengths"], fn := fun _ => fun
  | [d, g1] => { results := [.lit (.bool false)], args := [d], vars := [g1] }
  | _ => none }
def FnExactWeekOfWrongFalsely : Prop := fnExactWeekOfRow.holds Tryd.pinned (OpenSpec.ofChange fnExactWeekOfWrong)

/-- 'laws.FnExactDateOf': WHATEVER THE INPUT: true; the input reads as it did. -/
def fnExactDateOfSpec : ChangeSpec := { name := "fnExactDateOf", vars := ["loop.example/g00025/impl.monthLengths"], fn := fun _ => fun
  | [d1, d2, g1] => { results := [.lit (.bool true)], args := [d1, d2], vars := [g1] }
  | _ => none }
def fnExactDateOfRow : OpenClaim := { program := "ytgemcfmkhkijaaadoor", sum := "bb02936de432ee88133165be8204f2d8f89cf985133b0daa728328ff582d69b7", func := "loop.example/g00025/laws.FnExactDateOf", spec := "fnExactDateOf", named := ["loop.example/g00025/impl.monthLengths"], apart := false, laid := [("loop.example/g00025/impl.monthLengths", laid_loop_example_g00025_impl_monthLengths)] }
def FnExactDateOfSaid : Prop := fnExactDateOfRow.holds Tryd.pinned (OpenSpec.ofChange fnExactDateOfSpec)

/-- ITS FALSE NEIGHBOUR: 'it returns false'. Refute it at one input. -/
def fnExactDateOfWrong : ChangeSpec := { name := "fnExactDateOf", vars := ["loop.example/g00025/impl.monthLengths"], fn := fun _ => fun
  | [d1, d2, g1] => { results := [.lit (.bool false)], args := [d1, d2], vars := [g1] }
  | _ => none }
def FnExactDateOfWrongFalsely : Prop := fnExactDateOfRow.holds Tryd.pinned (OpenSpec.ofChange fnExactDateOfWrong)

/-- 'laws.FnExactBoolOf': WHATEVER THE INPUT: true; the input reads as it did. -/
def fnExactBoolOfSpec : ChangeSpec := { name := "fnExactBoolOf", vars := ["loop.example/g00025/impl.errorTexts"], fn := fun _ => fun
  | [d, g1] => { results := [.lit (.bool true)], args := [d], vars := [g1] }
  | _ => none }
def fnExactBoolOfRow : OpenClaim := { program := "ytgemcfmkhkijaaadoor", sum := "bb02936de432ee88133165be8204f2d8f89cf985133b0daa728328ff582d69b7", func := "loop.example/g00025/laws.FnExactBoolOf", spec := "fnExactBoolOf", named := ["loop.example/g00025/impl.errorTexts"], apart := false, laid := [("loop.example/g00025/impl.errorTexts", laid_loop_example_g00025_impl_errorTexts)] }
def FnExactBoolOfSaid : Prop := fnExactBoolOfRow.holds Tryd.pinned (OpenSpec.ofChange fnExactBoolOfSpec)

/-- ITS FALSE NEIGHBOUR: 'it returns false'. Refute it at one input. -/
def fnExactBoolOfWrong : ChangeSpec := { name := "fnExactBoolOf", vars := ["loop.example/g00025/impl.errorTexts"], fn := fun _ => fun
  | [d, g1] => { results := [.lit (.bool false)], args := [d], vars := [g1] }
  | _ => none }
def FnExactBoolOfWrongFalsely : Prop := fnExactBoolOfRow.holds Tryd.pinned (OpenSpec.ofChange fnExactBoolOfWrong)

/-- 'laws.FnExactGoodGrid': WHATEVER THE INPUT: true; the input reads as it did. -/
def fnExactGoodGridSpec : ChangeSpec := { name := "fnExactGoodGrid", vars := ["loop.example/g00025/impl.errorTexts"], fn := fun _ => fun
  | [d, g1] => { results := [.lit (.bool true)], args := [d], vars := [g1] }
  | _ => none }
def fnExactGoodGridRow : OpenClaim := { program := "ytgemcfmkhkijaaadoor", sum := "bb02936de432ee88133165be8204f2d8f89cf985133b0daa728328ff582d69b7", func := "loop.example/g00025/laws.FnExactGoodGrid", spec := "fnExactGoodGrid", named := ["loop.example/g00025/impl.errorTexts"], apart := false, laid := [("loop.example/g00025/impl.errorTexts", laid_loop_example_g00025_impl_errorTexts)] }
def FnExactGoodGridSaid : Prop := fnExactGoodGridRow.holds Tryd.pinned (OpenSpec.ofChange fnExactGoodGridSpec)

/-- ITS FALSE NEIGHBOUR: 'it returns false'. Refute it at one input. -/
def fnExactGoodGridWrong : ChangeSpec := { name := "fnExactGoodGrid", vars := ["loop.example/g00025/impl.errorTexts"], fn := fun _ => fun
  | [d, g1] => { results := [.lit (.bool false)], args := [d], vars := [g1] }
  | _ => none }
def FnExactGoodGridWrongFalsely : Prop := fnExactGoodGridRow.holds Tryd.pinned (OpenSpec.ofChange fnExactGoodGridWrong)

/- THE SECOND FORM. 'bulk': how many values and letters a reading holds, each counted each time it is reached (what is shared counts as often as it is met; a slice's spare places count too). A statement '..UptoSaid' is the law's where the arguments, and the package variables that the reading takes, are together of bulk at most 1048576: NARROWER than '..Said'. Prove '..Said' where nothing that the law and all that it calls make is longer than what came in: it says more and counts as full. Else prove '..UptoSaid'. A law counts once. -/
mutual
def uptoBulk {H : Type} : DataW H → Nat
  | .lit (.string bytes) => bytes.length + 1
  | .lit _ => 1
  | .nil => 1
  | .ptr d => uptoBulk d + 1
  | .slice elems spare => uptoBulkAll elems + uptoBulkAll spare + 1
  | .agg parts => uptoBulkAll parts + 1
  | .iface _ d => uptoBulk d + 1
  | .map entries => uptoBulkEntries entries + 1
  | .held _ => 1
def uptoBulkAll {H : Type} : List (DataW H) → Nat
  | [] => 0
  | d :: r => uptoBulk d + uptoBulkAll r
def uptoBulkEntries {H : Type} : List (Lit × DataW H) → Nat
  | [] => 0
  | x :: r => uptoBulkEntry x + uptoBulkEntries r
def uptoBulkEntry {H : Type} : Lit × DataW H → Nat
  | (.string bytes, d) => bytes.length + uptoBulk d + 1
  | (_, d) => uptoBulk d + 1
 end
def uptoSmall : (H : Type) → List (DataW H) → Bool := fun _ ds => decide (uptoBulkAll ds ≤ 1048576)
def OpenSpec.upto (s : _root_.Go.ChangeSpec) : _root_.Go.OpenSpec := { _root_.Go.OpenSpec.ofChange s with cond := some uptoSmall }

/-- 'laws.FnExactWeekOf', WHERE WHAT IT READS IS OF BULK AT MOST 1048576: true; the input reads as it did. -/
def fnExactWeekOfUptoRow : OpenClaim := { program := "ytgemcfmkhkijaaadoor", sum := "bb02936de432ee88133165be8204f2d8f89cf985133b0daa728328ff582d69b7", func := "loop.example/g00025/laws.FnExactWeekOf", spec := "fnExactWeekOf", named := ["loop.example/g00025/impl.monthLengths"], apart := false, laid := [("loop.example/g00025/impl.monthLengths", laid_loop_example_g00025_impl_monthLengths)], narrowed := true }
def FnExactWeekOfUptoSaid : Prop := fnExactWeekOfUptoRow.holds Tryd.pinned (OpenSpec.upto fnExactWeekOfSpec)

/-- 'laws.FnExactDateOf', WHERE WHAT IT READS IS OF BULK AT MOST 1048576: true; the input reads as it did. -/
def fnExactDateOfUptoRow : OpenClaim := { program := "ytgemcfmkhkijaaadoor", sum := "bb02936de432ee88133165be8204f2d8f89cf985133b0daa728328ff582d69b7", func := "loop.example/g00025/laws.FnExactDateOf", spec := "fnExactDateOf", named := ["loop.example/g00025/impl.monthLengths"], apart := false, laid := [("loop.example/g00025/impl.monthLengths", laid_loop_example_g00025_impl_monthLengths)], narrowed := true }
def FnExactDateOfUptoSaid : Prop := fnExactDateOfUptoRow.holds Tryd.pinned (OpenSpec.upto fnExactDateOfSpec)

/-- 'laws.FnExactBoolOf', WHERE WHAT IT READS IS OF BULK AT MOST 1048576: true; the input reads as it did. -/
def fnExactBoolOfUptoRow : OpenClaim := { program := "ytgemcfmkhkijaaadoor", sum := "bb02936de432ee88133165be8204f2d8f89cf985133b0daa728328ff582d69b7", func := "loop.example/g00025/laws.FnExactBoolOf", spec := "fnExactBoolOf", named := ["loop.example/g00025/impl.errorTexts"], apart := false, laid := [("loop.example/g00025/impl.errorTexts", laid_loop_example_g00025_impl_errorTexts)], narrowed := true }
def FnExactBoolOfUptoSaid : Prop := fnExactBoolOfUptoRow.holds Tryd.pinned (OpenSpec.upto fnExactBoolOfSpec)

/-- 'laws.FnExactGoodGrid', WHERE WHAT IT READS IS OF BULK AT MOST 1048576: true; the input reads as it did. -/
def fnExactGoodGridUptoRow : OpenClaim := { program := "ytgemcfmkhkijaaadoor", sum := "bb02936de432ee88133165be8204f2d8f89cf985133b0daa728328ff582d69b7", func := "loop.example/g00025/laws.FnExactGoodGrid", spec := "fnExactGoodGrid", named := ["loop.example/g00025/impl.errorTexts"], apart := false, laid := [("loop.example/g00025/impl.errorTexts", laid_loop_example_g00025_impl_errorTexts)], narrowed := true }
def FnExactGoodGridUptoSaid : Prop := fnExactGoodGridUptoRow.holds Tryd.pinned (OpenSpec.upto fnExactGoodGridSpec)

end Rows
end Go.Proofs.YtgemcfmkhkijaaaDoor
