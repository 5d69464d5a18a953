/-
  NARROWER THAN 'FOR EVERY INPUT', by the rows' own cells (each row's printed sentence says how): FnExactGoodFormula: laid · FnExactUsedNames: laid · FnExactFilled: laid · FnExactUsedAreas: laid · FnExactMoveFormula: laid · FnExactTurnFormula: laid.
  DERIVED. THE GIVEN ROWS OF THIS SEAT. 6 by the template 'for every input the law returns true; each argument reads behind the call as it read before'; 0 by the template 'total and deterministic' (their statements: YtegdpgpbdcediaaGreatDoorTotals.lean).
  GIVEN WITH THE SEED: the statements are not yours to turn. If you find one false, say at which input.
  Laid BY PROGRAM, IN A SANDBOX (cutbox-rows.mjs): the forced cells as the released guide's own fill.sh prints them over the translation 18b7fd3eca55f35b… (all of the seat's roots in one cut). By AI agents, Wed Nov 11 2026. No macro, syntax, notation, axiom, sorry.
-/
import Derived.Test.YtegdpgpbdcediaaGreatDoorChecked
import GoSem.Claim
import GoSem.ClaimJoined
import GoSem.ClaimMapViews
import Derived.JoinedTies
import Derived.KernelRfl
namespace Go.Proofs.YtegdpgpbdcediaaGreatDoor
/- THE CELL 'sum', in the pinned program and in every row, IS THE sha256 OF THE DUMP (.gsa) THAT YtegdpgpbdcediaaGreatDoorProg.lean LOADS. Nothing in Lean hashes anything: it is a label: what it is worth is what the hold of that sum in a sandbox is worth. -/
noncomputable def Tryz.pinned : Pinned := { name := "ytegdpgpbdcediaagreatdoor", sum := "18b7fd3eca55f35b2419d3ee62326f14c4f3a1ad9650950e4b8515db0e334552", checked := Tryz.checked }
namespace Rows
def none {H : Type} : Left H := { results := [], args := [] }

/- WHAT THE LISTED PACKAGE-LEVEL VARIABLES READ AS WHEN THE CALL BEGINS. Each datum BY PROGRAM (the guide's laid-datum.mjs) off the statement by which the dump's own 'gosem.cut.vars' lays the variable. In a bare row this is a premise. The card (YtegdpgpbdcediaaGreatDoorCards.lean) ties it to the program's text. -/
def laid_math_bits_deBruijn32tab {H : Type} : DataW H := .agg [.lit (.int .u8 0), .lit (.int .u8 1), .lit (.int .u8 28), .lit (.int .u8 2), .lit (.int .u8 29), .lit (.int .u8 14), .lit (.int .u8 24), .lit (.int .u8 3), .lit (.int .u8 30), .lit (.int .u8 22), .lit (.int .u8 20), .lit (.int .u8 15), .lit (.int .u8 25), .lit (.int .u8 17), .lit (.int .u8 4), .lit (.int .u8 8), .lit (.int .u8 31), .lit (.int .u8 27), .lit (.int .u8 13), .lit (.int .u8 23), .lit (.int .u8 21), .lit (.int .u8 19), .lit (.int .u8 16), .lit (.int .u8 7), .lit (.int .u8 26), .lit (.int .u8 12), .lit (.int .u8 18), .lit (.int .u8 6), .lit (.int .u8 11), .lit (.int .u8 5), .lit (.int .u8 10), .lit (.int .u8 9)]
def laid_math_bits_deBruijn64tab {H : Type} : DataW H := .agg [.lit (.int .u8 0), .lit (.int .u8 1), .lit (.int .u8 56), .lit (.int .u8 2), .lit (.int .u8 57), .lit (.int .u8 49), .lit (.int .u8 28), .lit (.int .u8 3), .lit (.int .u8 61), .lit (.int .u8 58), .lit (.int .u8 42), .lit (.int .u8 50), .lit (.int .u8 38), .lit (.int .u8 29), .lit (.int .u8 17), .lit (.int .u8 4), .lit (.int .u8 62), .lit (.int .u8 47), .lit (.int .u8 59), .lit (.int .u8 36), .lit (.int .u8 45), .lit (.int .u8 43), .lit (.int .u8 51), .lit (.int .u8 22), .lit (.int .u8 53), .lit (.int .u8 39), .lit (.int .u8 33), .lit (.int .u8 30), .lit (.int .u8 24), .lit (.int .u8 18), .lit (.int .u8 12), .lit (.int .u8 5), .lit (.int .u8 63), .lit (.int .u8 55), .lit (.int .u8 48), .lit (.int .u8 27), .lit (.int .u8 60), .lit (.int .u8 41), .lit (.int .u8 37), .lit (.int .u8 16), .lit (.int .u8 46), .lit (.int .u8 35), .lit (.int .u8 44), .lit (.int .u8 21), .lit (.int .u8 52), .lit (.int .u8 32), .lit (.int .u8 23), .lit (.int .u8 11), .lit (.int .u8 54), .lit (.int .u8 26), .lit (.int .u8 40), .lit (.int .u8 15), .lit (.int .u8 34), .lit (.int .u8 20), .lit (.int .u8 31), .lit (.int .u8 10), .lit (.int .u8 25), .lit (.int .u8 14), .lit (.int .u8 19), .lit (.int .u8 9), .lit (.int .u8 13), .lit (.int .u8 8), .lit (.int .u8 7), .lit (.int .u8 6)]
def laid_internal_strconv_uint64pow10 {H : Type} : DataW H := .agg [.lit (.int .u64 1), .lit (.int .u64 10), .lit (.int .u64 100), .lit (.int .u64 1000), .lit (.int .u64 10000), .lit (.int .u64 100000), .lit (.int .u64 1000000), .lit (.int .u64 10000000), .lit (.int .u64 100000000), .lit (.int .u64 1000000000), .lit (.int .u64 10000000000), .lit (.int .u64 100000000000), .lit (.int .u64 1000000000000), .lit (.int .u64 10000000000000), .lit (.int .u64 100000000000000), .lit (.int .u64 1000000000000000), .lit (.int .u64 10000000000000000), .lit (.int .u64 100000000000000000), .lit (.int .u64 1000000000000000000), .lit (.int .u64 10000000000000000000)]
def laid_strconv_ErrRange {H : Type} : DataW H := .iface "*errors.errorString" (.ptr (.agg [.lit (.string [118, 97, 108, 117, 101, 32, 111, 117, 116, 32, 111, 102, 32, 114, 97, 110, 103, 101])]))
def laid_strconv_ErrSyntax {H : Type} : DataW H := .iface "*errors.errorString" (.ptr (.agg [.lit (.string [105, 110, 118, 97, 108, 105, 100, 32, 115, 121, 110, 116, 97, 120])]))
def laid_loop_example_g00025_impl_errorTexts {H : Type} : DataW H := .agg [.lit (.string [35, 78, 85, 76, 76, 33]), .lit (.string [35, 68, 73, 86, 47, 48, 33]), .lit (.string [35, 86, 65, 76, 85, 69, 33]), .lit (.string [35, 82, 69, 70, 33]), .lit (.string [35, 78, 65, 77, 69, 63]), .lit (.string [35, 78, 85, 77, 33]), .lit (.string [35, 78, 47, 65]), .lit (.string [35, 83, 80, 73, 76, 76, 33]), .lit (.string [35, 67, 89, 67, 76, 69, 33])]

/-- 'laws.FnExactGoodFormula': WHATEVER THE INPUT: true; the input reads as it did. -/
def fnExactGoodFormulaSpec : ChangeSpec := { name := "fnExactGoodFormula", vars := ["loop.example/g00025/impl.errorTexts"], fn := fun _ => fun
  | [d, g1] => { results := [.lit (.bool true)], args := [d], vars := [g1] }
  | _ => none }
def fnExactGoodFormulaRow : OpenClaim := { program := "ytegdpgpbdcediaagreatdoor", sum := "18b7fd3eca55f35b2419d3ee62326f14c4f3a1ad9650950e4b8515db0e334552", func := "loop.example/g00025/laws.FnExactGoodFormula", spec := "fnExactGoodFormula", recurses := true, named := ["loop.example/g00025/impl.errorTexts", "strconv.ErrSyntax", "strconv.ErrRange", "internal/strconv.uint64pow10", "math/bits.deBruijn32tab", "math/bits.deBruijn64tab"], plainKeys := false, apart := false, laid := [("math/bits.deBruijn32tab", laid_math_bits_deBruijn32tab), ("math/bits.deBruijn64tab", laid_math_bits_deBruijn64tab), ("internal/strconv.uint64pow10", laid_internal_strconv_uint64pow10), ("strconv.ErrRange", laid_strconv_ErrRange), ("strconv.ErrSyntax", laid_strconv_ErrSyntax), ("loop.example/g00025/impl.errorTexts", laid_loop_example_g00025_impl_errorTexts)] }
def FnExactGoodFormulaSaid : Prop := fnExactGoodFormulaRow.holds Tryz.pinned (OpenSpec.ofChange fnExactGoodFormulaSpec)

/-- ITS FALSE NEIGHBOUR: 'it returns false'. Refute it at one input. -/
def fnExactGoodFormulaWrong : ChangeSpec := { name := "fnExactGoodFormula", vars := ["loop.example/g00025/impl.errorTexts"], fn := fun _ => fun
  | [d, g1] => { results := [.lit (.bool false)], args := [d], vars := [g1] }
  | _ => none }
def FnExactGoodFormulaWrongFalsely : Prop := fnExactGoodFormulaRow.holds Tryz.pinned (OpenSpec.ofChange fnExactGoodFormulaWrong)

/-- 'laws.FnExactUsedNames': WHATEVER THE INPUT: true; the input reads as it did. -/
def fnExactUsedNamesSpec : ChangeSpec := { name := "fnExactUsedNames", vars := ["loop.example/g00025/impl.errorTexts"], fn := fun _ => fun
  | [d, g1] => { results := [.lit (.bool true)], args := [d], vars := [g1] }
  | _ => none }
def fnExactUsedNamesRow : OpenClaim := { program := "ytegdpgpbdcediaagreatdoor", sum := "18b7fd3eca55f35b2419d3ee62326f14c4f3a1ad9650950e4b8515db0e334552", func := "loop.example/g00025/laws.FnExactUsedNames", spec := "fnExactUsedNames", recurses := true, named := ["loop.example/g00025/impl.errorTexts", "strconv.ErrSyntax", "strconv.ErrRange", "internal/strconv.uint64pow10", "math/bits.deBruijn32tab", "math/bits.deBruijn64tab"], plainKeys := false, apart := false, laid := [("math/bits.deBruijn32tab", laid_math_bits_deBruijn32tab), ("math/bits.deBruijn64tab", laid_math_bits_deBruijn64tab), ("internal/strconv.uint64pow10", laid_internal_strconv_uint64pow10), ("strconv.ErrRange", laid_strconv_ErrRange), ("strconv.ErrSyntax", laid_strconv_ErrSyntax), ("loop.example/g00025/impl.errorTexts", laid_loop_example_g00025_impl_errorTexts)] }
def FnExactUsedNamesSaid : Prop := fnExactUsedNamesRow.holds Tryz.pinned (OpenSpec.ofChange fnExactUsedNamesSpec)

/-- ITS FALSE NEIGHBOUR: 'it returns false'. Refute it at one input. -/
def fnExactUsedNamesWrong : ChangeSpec := { name := "fnExactUsedNames", vars := ["loop.example/g00025/impl.errorTexts"], fn := fun _ => fun
  | [d, g1] => { results := [.lit (.bool false)], args := [d], vars := [g1] }
  | _ => none }
def FnExactUsedNamesWrongFalsely : Prop := fnExactUsedNamesRow.holds Tryz.pinned (OpenSpec.ofChange fnExactUsedNamesWrong)

/-- 'laws.FnExactFilled': WHATEVER THE INPUT: true; the input reads as it did. -/
def fnExactFilledSpec : ChangeSpec := { name := "fnExactFilled", vars := ["loop.example/g00025/impl.errorTexts"], fn := fun _ => fun
  | [d1, d2, d3, g1] => { results := [.lit (.bool true)], args := [d1, d2, d3], vars := [g1] }
  | _ => none }
def fnExactFilledRow : OpenClaim := { program := "ytegdpgpbdcediaagreatdoor", sum := "18b7fd3eca55f35b2419d3ee62326f14c4f3a1ad9650950e4b8515db0e334552", func := "loop.example/g00025/laws.FnExactFilled", spec := "fnExactFilled", unfollowed := true, recurses := true, named := ["loop.example/g00025/impl.errorTexts", "strconv.ErrSyntax", "strconv.ErrRange", "internal/strconv.uint64pow10", "math/bits.deBruijn32tab", "math/bits.deBruijn64tab"], plainKeys := false, apart := false, laid := [("math/bits.deBruijn32tab", laid_math_bits_deBruijn32tab), ("math/bits.deBruijn64tab", laid_math_bits_deBruijn64tab), ("internal/strconv.uint64pow10", laid_internal_strconv_uint64pow10), ("strconv.ErrRange", laid_strconv_ErrRange), ("strconv.ErrSyntax", laid_strconv_ErrSyntax), ("loop.example/g00025/impl.errorTexts", laid_loop_example_g00025_impl_errorTexts)] }
def FnExactFilledSaid : Prop := fnExactFilledRow.holds Tryz.pinned (OpenSpec.ofChange fnExactFilledSpec)

/-- ITS FALSE NEIGHBOUR: 'it returns false'. Refute it at one input. -/
def fnExactFilledWrong : ChangeSpec := { name := "fnExactFilled", vars := ["loop.example/g00025/impl.errorTexts"], fn := fun _ => fun
  | [d1, d2, d3, g1] => { results := [.lit (.bool false)], args := [d1, d2, d3], vars := [g1] }
  | _ => none }
def FnExactFilledWrongFalsely : Prop := fnExactFilledRow.holds Tryz.pinned (OpenSpec.ofChange fnExactFilledWrong)

/-- 'laws.FnExactUsedAreas': WHATEVER THE INPUT: true; the input reads as it did. -/
def fnExactUsedAreasSpec : ChangeSpec := { name := "fnExactUsedAreas", vars := ["loop.example/g00025/impl.errorTexts"], fn := fun _ => fun
  | [d, g1] => { results := [.lit (.bool true)], args := [d], vars := [g1] }
  | _ => none }
def fnExactUsedAreasRow : OpenClaim := { program := "ytegdpgpbdcediaagreatdoor", sum := "18b7fd3eca55f35b2419d3ee62326f14c4f3a1ad9650950e4b8515db0e334552", func := "loop.example/g00025/laws.FnExactUsedAreas", spec := "fnExactUsedAreas", recurses := true, named := ["loop.example/g00025/impl.errorTexts", "strconv.ErrSyntax", "strconv.ErrRange", "internal/strconv.uint64pow10", "math/bits.deBruijn32tab", "math/bits.deBruijn64tab"], plainKeys := false, apart := false, laid := [("math/bits.deBruijn32tab", laid_math_bits_deBruijn32tab), ("math/bits.deBruijn64tab", laid_math_bits_deBruijn64tab), ("internal/strconv.uint64pow10", laid_internal_strconv_uint64pow10), ("strconv.ErrRange", laid_strconv_ErrRange), ("strconv.ErrSyntax", laid_strconv_ErrSyntax), ("loop.example/g00025/impl.errorTexts", laid_loop_example_g00025_impl_errorTexts)] }
def FnExactUsedAreasSaid : Prop := fnExactUsedAreasRow.holds Tryz.pinned (OpenSpec.ofChange fnExactUsedAreasSpec)

/-- ITS FALSE NEIGHBOUR: 'it returns false'. Refute it at one input. -/
def fnExactUsedAreasWrong : ChangeSpec := { name := "fnExactUsedAreas", vars := ["loop.example/g00025/impl.errorTexts"], fn := fun _ => fun
  | [d, g1] => { results := [.lit (.bool false)], args := [d], vars := [g1] }
  | _ => none }
def FnExactUsedAreasWrongFalsely : Prop := fnExactUsedAreasRow.holds Tryz.pinned (OpenSpec.ofChange fnExactUsedAreasWrong)

/-- 'laws.FnExactMoveFormula': WHATEVER THE INPUT: true; the input reads as it did. -/
def fnExactMoveFormulaSpec : ChangeSpec := { name := "fnExactMoveFormula", vars := ["loop.example/g00025/impl.errorTexts"], fn := fun _ => fun
  | [d1, d2, g1] => { results := [.lit (.bool true)], args := [d1, d2], vars := [g1] }
  | _ => none }
def fnExactMoveFormulaRow : OpenClaim := { program := "ytegdpgpbdcediaagreatdoor", sum := "18b7fd3eca55f35b2419d3ee62326f14c4f3a1ad9650950e4b8515db0e334552", func := "loop.example/g00025/laws.FnExactMoveFormula", spec := "fnExactMoveFormula", unfollowed := true, recurses := true, named := ["loop.example/g00025/impl.errorTexts", "strconv.ErrSyntax", "strconv.ErrRange", "internal/strconv.uint64pow10", "math/bits.deBruijn32tab", "math/bits.deBruijn64tab"], plainKeys := false, apart := false, laid := [("math/bits.deBruijn32tab", laid_math_bits_deBruijn32tab), ("math/bits.deBruijn64tab", laid_math_bits_deBruijn64tab), ("internal/strconv.uint64pow10", laid_internal_strconv_uint64pow10), ("strconv.ErrRange", laid_strconv_ErrRange), ("strconv.ErrSyntax", laid_strconv_ErrSyntax), ("loop.example/g00025/impl.errorTexts", laid_loop_example_g00025_impl_errorTexts)] }
def FnExactMoveFormulaSaid : Prop := fnExactMoveFormulaRow.holds Tryz.pinned (OpenSpec.ofChange fnExactMoveFormulaSpec)

/-- ITS FALSE NEIGHBOUR: 'it returns false'. Refute it at one input. -/
def fnExactMoveFormulaWrong : ChangeSpec := { name := "fnExactMoveFormula", vars := ["loop.example/g00025/impl.errorTexts"], fn := fun _ => fun
  | [d1, d2, g1] => { results := [.lit (.bool false)], args := [d1, d2], vars := [g1] }
  | _ => none }
def FnExactMoveFormulaWrongFalsely : Prop := fnExactMoveFormulaRow.holds Tryz.pinned (OpenSpec.ofChange fnExactMoveFormulaWrong)

/-- 'laws.FnExactTurnFormula': WHATEVER THE INPUT: true; the input reads as it did. -/
def fnExactTurnFormulaSpec : ChangeSpec := { name := "fnExactTurnFormula", vars := ["loop.example/g00025/impl.errorTexts"], fn := fun _ => fun
  | [d1, d2, g1] => { results := [.lit (.bool true)], args := [d1, d2], vars := [g1] }
  | _ => none }
def fnExactTurnFormulaRow : OpenClaim := { program := "ytegdpgpbdcediaagreatdoor", sum := "18b7fd3eca55f35b2419d3ee62326f14c4f3a1ad9650950e4b8515db0e334552", func := "loop.example/g00025/laws.FnExactTurnFormula", spec := "fnExactTurnFormula", unfollowed := true, recurses := true, named := ["loop.example/g00025/impl.errorTexts", "strconv.ErrSyntax", "strconv.ErrRange", "internal/strconv.uint64pow10", "math/bits.deBruijn32tab", "math/bits.deBruijn64tab"], plainKeys := false, apart := false, laid := [("math/bits.deBruijn32tab", laid_math_bits_deBruijn32tab), ("math/bits.deBruijn64tab", laid_math_bits_deBruijn64tab), ("internal/strconv.uint64pow10", laid_internal_strconv_uint64pow10), ("strconv.ErrRange", laid_strconv_ErrRange), ("strconv.ErrSyntax", laid_strconv_ErrSyntax), ("loop.example/g00025/impl.errorTexts", laid_loop_example_g00025_impl_errorTexts)] }
def FnExactTurnFormulaSaid : Prop := fnExactTurnFormulaRow.holds Tryz.pinned (OpenSpec.ofChange fnExactTurnFormulaSpec)

/-- ITS FALSE NEIGHBOUR: 'it returns false'. Refute it at one input. -/
def fnExactTurnFormulaWrong : ChangeSpec := { name := "fnExactTurnFormula", vars := ["loop.example/g00025/impl.errorTexts"], fn := fun _ => fun
  | [d1, d2, g1] => { results := [.lit (.bool false)], args := [d1, d2], vars := [g1] }
  | _ => none }
def FnExactTurnFormulaWrongFalsely : Prop := fnExactTurnFormulaRow.holds Tryz.pinned (OpenSpec.ofChange fnExactTurnFormulaWrong)

/- THE SECOND FORM. 'bulk': how many values and letters a reading holds, each counted each time it is reached (what is shared counts as often as it is met; a slice's spare places count too). A statement '..UptoSaid' is the law's where the arguments, and the package variables that the reading takes, are together of bulk at most 1048576: NARROWER than '..Said'. Prove '..Said' where nothing that the law and all that it calls make is longer than what came in: it says more and counts as full. Else prove '..UptoSaid'. A law counts once. -/
mutual
def uptoBulk {H : Type} : DataW H → Nat
  | .lit (.string bytes) => bytes.length + 1
  | .lit _ => 1
  | .nil => 1
  | .ptr d => uptoBulk d + 1
  | .slice elems spare => uptoBulkAll elems + uptoBulkAll spare + 1
  | .agg parts => uptoBulkAll parts + 1
  | .iface _ d => uptoBulk d + 1
  | .map entries => uptoBulkEntries entries + 1
  | .held _ => 1
def uptoBulkAll {H : Type} : List (DataW H) → Nat
  | [] => 0
  | d :: r => uptoBulk d + uptoBulkAll r
def uptoBulkEntries {H : Type} : List (Lit × DataW H) → Nat
  | [] => 0
  | x :: r => uptoBulkEntry x + uptoBulkEntries r
def uptoBulkEntry {H : Type} : Lit × DataW H → Nat
  | (.string bytes, d) => bytes.length + uptoBulk d + 1
  | (_, d) => uptoBulk d + 1
 end
def uptoSmall : (H : Type) → List (DataW H) → Bool := fun _ ds => decide (uptoBulkAll ds ≤ 1048576)
def OpenSpec.upto (s : _root_.Go.ChangeSpec) : _root_.Go.OpenSpec := { _root_.Go.OpenSpec.ofChange s with cond := some uptoSmall }

/-- 'laws.FnExactGoodFormula', WHERE WHAT IT READS IS OF BULK AT MOST 1048576: true; the input reads as it did. -/
def fnExactGoodFormulaUptoRow : OpenClaim := { program := "ytegdpgpbdcediaagreatdoor", sum := "18b7fd3eca55f35b2419d3ee62326f14c4f3a1ad9650950e4b8515db0e334552", func := "loop.example/g00025/laws.FnExactGoodFormula", spec := "fnExactGoodFormula", recurses := true, named := ["loop.example/g00025/impl.errorTexts", "strconv.ErrSyntax", "strconv.ErrRange", "internal/strconv.uint64pow10", "math/bits.deBruijn32tab", "math/bits.deBruijn64tab"], plainKeys := false, apart := false, laid := [("math/bits.deBruijn32tab", laid_math_bits_deBruijn32tab), ("math/bits.deBruijn64tab", laid_math_bits_deBruijn64tab), ("internal/strconv.uint64pow10", laid_internal_strconv_uint64pow10), ("strconv.ErrRange", laid_strconv_ErrRange), ("strconv.ErrSyntax", laid_strconv_ErrSyntax), ("loop.example/g00025/impl.errorTexts", laid_loop_example_g00025_impl_errorTexts)], narrowed := true }
def FnExactGoodFormulaUptoSaid : Prop := fnExactGoodFormulaUptoRow.holds Tryz.pinned (OpenSpec.upto fnExactGoodFormulaSpec)

/-- 'laws.FnExactUsedNames', WHERE WHAT IT READS IS OF BULK AT MOST 1048576: true; the input reads as it did. -/
def fnExactUsedNamesUptoRow : OpenClaim := { program := "ytegdpgpbdcediaagreatdoor", sum := "18b7fd3eca55f35b2419d3ee62326f14c4f3a1ad9650950e4b8515db0e334552", func := "loop.example/g00025/laws.FnExactUsedNames", spec := "fnExactUsedNames", recurses := true, named := ["loop.example/g00025/impl.errorTexts", "strconv.ErrSyntax", "strconv.ErrRange", "internal/strconv.uint64pow10", "math/bits.deBruijn32tab", "math/bits.deBruijn64tab"], plainKeys := false, apart := false, laid := [("math/bits.deBruijn32tab", laid_math_bits_deBruijn32tab), ("math/bits.deBruijn64tab", laid_math_bits_deBruijn64tab), ("internal/strconv.uint64pow10", laid_internal_strconv_uint64pow10), ("strconv.ErrRange", laid_strconv_ErrRange), ("strconv.ErrSyntax", laid_strconv_ErrSyntax), ("loop.example/g00025/impl.errorTexts", laid_loop_example_g00025_impl_errorTexts)], narrowed := true }
def FnExactUsedNamesUptoSaid : Prop := fnExactUsedNamesUptoRow.holds Tryz.pinned (OpenSpec.upto fnExactUsedNamesSpec)

/-- 'laws.FnExactFilled', WHERE WHAT IT READS IS OF BULK AT MOST 1048576: true; the input reads as it did. -/
def fnExactFilledUptoRow : OpenClaim := { program := "ytegdpgpbdcediaagreatdoor", sum := "18b7fd3eca55f35b2419d3ee62326f14c4f3a1ad9650950e4b8515db0e334552", func := "loop.example/g00025/laws.FnExactFilled", spec := "fnExactFilled", unfollowed := true, recurses := true, named := ["loop.example/g00025/impl.errorTexts", "strconv.ErrSyntax", "strconv.ErrRange", "internal/strconv.uint64pow10", "math/bits.deBruijn32tab", "math/bits.deBruijn64tab"], plainKeys := false, apart := false, laid := [("math/bits.deBruijn32tab", laid_math_bits_deBruijn32tab), ("math/bits.deBruijn64tab", laid_math_bits_deBruijn64tab), ("internal/strconv.uint64pow10", laid_internal_strconv_uint64pow10), ("strconv.ErrRange", laid_strconv_ErrRange), ("strconv.ErrSyntax", laid_strconv_ErrSyntax), ("loop.example/g00025/impl.errorTexts", laid_loop_example_g00025_impl_errorTexts)], narrowed := true }
def FnExactFilledUptoSaid : Prop := fnExactFilledUptoRow.holds Tryz.pinned (OpenSpec.upto fnExactFilledSpec)

/-- 'laws.FnExactUsedAreas', WHERE WHAT IT READS IS OF BULK AT MOST 1048576: true; the input reads as it did. -/
def fnExactUsedAreasUptoRow : OpenClaim := { program := "ytegdpgpbdcediaagreatdoor", sum := "18b7fd3eca55f35b2419d3ee62326f14c4f3a1ad9650950e4b8515db0e334552", func := "loop.example/g00025/laws.FnExactUsedAreas", spec := "fnExactUsedAreas", recurses := true, named := ["loop.example/g00025/impl.errorTexts", "strconv.ErrSyntax", "strconv.ErrRange", "internal/strconv.uint64pow10", "math/bits.deBruijn32tab", "math/bits.deBruijn64tab"], plainKeys := false, apart := false, laid := [("math/bits.deBruijn32tab", laid_math_bits_deBruijn32tab), ("math/bits.deBruijn64tab", laid_math_bits_deBruijn64tab), ("internal/strconv.uint64pow10", laid_internal_strconv_uint64pow10), ("strconv.ErrRange", laid_strconv_ErrRange), ("strconv.ErrSyntax", laid_strconv_ErrSyntax), ("loop.example/g00025/impl.errorTexts", laid_loop_example_g00025_impl_errorTexts)], narrowed := true }
def FnExactUsedAreasUptoSaid : Prop := fnExactUsedAreasUptoRow.holds Tryz.pinned (OpenSpec.upto fnExactUsedAreasSpec)

/-- 'laws.FnExactMoveFormula', WHERE WHAT IT READS IS OF BULK AT MOST 1048576: true; the input reads as it did. -/
def fnExactMoveFormulaUptoRow : OpenClaim := { program := "ytegdpgpbdcediaagreatdoor", sum := "18b7fd3eca55f35b2419d3ee62326f14c4f3a1ad9650950e4b8515db0e334552", func := "loop.example/g00025/laws.FnExactMoveFormula", spec := "fnExactMoveFormula", unfollowed := true, recurses := true, named := ["loop.example/g00025/impl.errorTexts", "strconv.ErrSyntax", "strconv.ErrRange", "internal/strconv.uint64pow10", "math/bits.deBruijn32tab", "math/bits.deBruijn64tab"], plainKeys := false, apart := false, laid := [("math/bits.deBruijn32tab", laid_math_bits_deBruijn32tab), ("math/bits.deBruijn64tab", laid_math_bits_deBruijn64tab), ("internal/strconv.uint64pow10", laid_internal_strconv_uint64pow10), ("strconv.ErrRange", laid_strconv_ErrRange), ("strconv.ErrSyntax", laid_strconv_ErrSyntax), ("loop.example/g00025/impl.errorTexts", laid_loop_example_g00025_impl_errorTexts)], narrowed := true }
def FnExactMoveFormulaUptoSaid : Prop := fnExactMoveFormulaUptoRow.holds Tryz.pinned (OpenSpec.upto fnExactMoveFormulaSpec)

/-- 'laws.FnExactTurnFormula', WHERE WHAT IT READS IS OF BULK AT MOST 1048576: true; the input reads as it did. -/
def fnExactTurnFormulaUptoRow : OpenClaim := { program := "ytegdpgpbdcediaagreatdoor", sum := "18b7fd3eca55f35b2419d3ee62326f14c4f3a1ad9650950e4b8515db0e334552", func := "loop.example/g00025/laws.FnExactTurnFormula", spec := "fnExactTurnFormula", unfollowed := true, recurses := true, named := ["loop.example/g00025/impl.errorTexts", "strconv.ErrSyntax", "strconv.ErrRange", "internal/strconv.uint64pow10", "math/bits.deBruijn32tab", "math/bits.deBruijn64tab"], plainKeys := false, apart := false, laid := [("math/bits.deBruijn32tab", laid_math_bits_deBruijn32tab), ("math/bits.deBruijn64tab", laid_math_bits_deBruijn64tab), ("internal/strconv.uint64pow10", laid_internal_strconv_uint64pow10), ("strconv.ErrRange", laid_strconv_ErrRange), ("strconv.ErrSyntax", laid_strconv_ErrSyntax), ("loop.example/g00025/impl.errorTexts", laid_loop_example_g00025_impl_errorTexts)], narrowed := true }
def FnExactTurnFormulaUptoSaid : Prop := fnExactTurnFormulaUptoRow.holds Tryz.pinned (OpenSpec.upto fnExactTurnFormulaSpec)

end Rows
end Go.Proofs.YtegdpgpbdcediaaGreatDoor
