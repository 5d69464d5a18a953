/-
  NARROWER THAN 'FOR EVERY INPUT', by the rows' own cells (each row's printed sentence says how): FnExactGoodPivot: laid · FnExactReadFormat: laid · FnExactRefTextBy: laid · FnExactDateText: laid · FnExactRefText: laid · FnExactDecText: laid · FnExactFormatCode: laid · FnExactReadRef: laid · FnExactShowValue: laid.
  DERIVED. THE GIVEN ROWS OF THIS SEAT. 9 by the template 'for every input the law returns true; each argument reads behind the call as it read before'; 0 by the template 'total and deterministic' (their statements: YtjemnnndifeagaaDoorTotals.lean).
  GIVEN WITH THE SEED: the statements are not yours to turn. If you find one false, say at which input.
  Laid BY PROGRAM, IN A SANDBOX (cutbox-rows.mjs): the forced cells as the released guide's own fill.sh prints them over the translation 7040840bad11afa8… (all of the seat's roots in one cut). By AI agents, Wed Nov 11 2026. No macro, syntax, notation, axiom, sorry.
-/
import Derived.Test.YtjemnnndifeagaaDoorChecked
import GoSem.Claim
import GoSem.ClaimJoined
import GoSem.ClaimMapViews
import Derived.JoinedTies
import Derived.KernelRfl
namespace Go.Proofs.YtjemnnndifeagaaDoor
/- THE CELL 'sum', in the pinned program and in every row, IS THE sha256 OF THE DUMP (.gsa) THAT YtjemnnndifeagaaDoorProg.lean LOADS. Nothing in Lean hashes anything: it is a label: what it is worth is what the hold of that sum in a sandbox is worth. -/
noncomputable def Tryd.pinned : Pinned := { name := "ytjemnnndifeagaadoor", sum := "7040840bad11afa8db7f73209e3ff197e1f923ddac9a08c8e9824f41db9a06e3", checked := Tryd.checked }
namespace Rows
def none {H : Type} : Left H := { results := [], args := [] }

/- WHAT THE LISTED PACKAGE-LEVEL VARIABLES READ AS WHEN THE CALL BEGINS. Each datum BY PROGRAM (the guide's laid-datum.mjs) off the statement by which the dump's own 'gosem.cut.vars' lays the variable. In a bare row this is a premise. The card (YtjemnnndifeagaaDoorCards.lean) ties it to the program's text. -/
def laid_loop_example_g00025_impl_errorTexts {H : Type} : DataW H := .agg [.lit (.string [35, 78, 85, 76, 76, 33]), .lit (.string [35, 68, 73, 86, 47, 48, 33]), .lit (.string [35, 86, 65, 76, 85, 69, 33]), .lit (.string [35, 82, 69, 70, 33]), .lit (.string [35, 78, 65, 77, 69, 63]), .lit (.string [35, 78, 85, 77, 33]), .lit (.string [35, 78, 47, 65]), .lit (.string [35, 83, 80, 73, 76, 76, 33]), .lit (.string [35, 67, 89, 67, 76, 69, 33])]
def laid_loop_example_g00025_impl_dateTokens {H : Type} : DataW H := .agg [.lit (.string [121, 121, 121, 121]), .lit (.string [121, 121]), .lit (.string [109, 109]), .lit (.string [100, 100]), .lit (.string [104, 104]), .lit (.string [110, 110]), .lit (.string [115, 115]), .lit (.string [109]), .lit (.string [100]), .lit (.string [45]), .lit (.string [47]), .lit (.string [58])]
def laid_math_bits_deBruijn32tab {H : Type} : DataW H := .agg [.lit (.int .u8 0), .lit (.int .u8 1), .lit (.int .u8 28), .lit (.int .u8 2), .lit (.int .u8 29), .lit (.int .u8 14), .lit (.int .u8 24), .lit (.int .u8 3), .lit (.int .u8 30), .lit (.int .u8 22), .lit (.int .u8 20), .lit (.int .u8 15), .lit (.int .u8 25), .lit (.int .u8 17), .lit (.int .u8 4), .lit (.int .u8 8), .lit (.int .u8 31), .lit (.int .u8 27), .lit (.int .u8 13), .lit (.int .u8 23), .lit (.int .u8 21), .lit (.int .u8 19), .lit (.int .u8 16), .lit (.int .u8 7), .lit (.int .u8 26), .lit (.int .u8 12), .lit (.int .u8 18), .lit (.int .u8 6), .lit (.int .u8 11), .lit (.int .u8 5), .lit (.int .u8 10), .lit (.int .u8 9)]
def laid_math_bits_deBruijn64tab {H : Type} : DataW H := .agg [.lit (.int .u8 0), .lit (.int .u8 1), .lit (.int .u8 56), .lit (.int .u8 2), .lit (.int .u8 57), .lit (.int .u8 49), .lit (.int .u8 28), .lit (.int .u8 3), .lit (.int .u8 61), .lit (.int .u8 58), .lit (.int .u8 42), .lit (.int .u8 50), .lit (.int .u8 38), .lit (.int .u8 29), .lit (.int .u8 17), .lit (.int .u8 4), .lit (.int .u8 62), .lit (.int .u8 47), .lit (.int .u8 59), .lit (.int .u8 36), .lit (.int .u8 45), .lit (.int .u8 43), .lit (.int .u8 51), .lit (.int .u8 22), .lit (.int .u8 53), .lit (.int .u8 39), .lit (.int .u8 33), .lit (.int .u8 30), .lit (.int .u8 24), .lit (.int .u8 18), .lit (.int .u8 12), .lit (.int .u8 5), .lit (.int .u8 63), .lit (.int .u8 55), .lit (.int .u8 48), .lit (.int .u8 27), .lit (.int .u8 60), .lit (.int .u8 41), .lit (.int .u8 37), .lit (.int .u8 16), .lit (.int .u8 46), .lit (.int .u8 35), .lit (.int .u8 44), .lit (.int .u8 21), .lit (.int .u8 52), .lit (.int .u8 32), .lit (.int .u8 23), .lit (.int .u8 11), .lit (.int .u8 54), .lit (.int .u8 26), .lit (.int .u8 40), .lit (.int .u8 15), .lit (.int .u8 34), .lit (.int .u8 20), .lit (.int .u8 31), .lit (.int .u8 10), .lit (.int .u8 25), .lit (.int .u8 14), .lit (.int .u8 19), .lit (.int .u8 9), .lit (.int .u8 13), .lit (.int .u8 8), .lit (.int .u8 7), .lit (.int .u8 6)]
def laid_internal_strconv_uint64pow10 {H : Type} : DataW H := .agg [.lit (.int .u64 1), .lit (.int .u64 10), .lit (.int .u64 100), .lit (.int .u64 1000), .lit (.int .u64 10000), .lit (.int .u64 100000), .lit (.int .u64 1000000), .lit (.int .u64 10000000), .lit (.int .u64 100000000), .lit (.int .u64 1000000000), .lit (.int .u64 10000000000), .lit (.int .u64 100000000000), .lit (.int .u64 1000000000000), .lit (.int .u64 10000000000000), .lit (.int .u64 100000000000000), .lit (.int .u64 1000000000000000), .lit (.int .u64 10000000000000000), .lit (.int .u64 100000000000000000), .lit (.int .u64 1000000000000000000), .lit (.int .u64 10000000000000000000)]
def laid_strconv_ErrRange {H : Type} : DataW H := .iface "*errors.errorString" (.ptr (.agg [.lit (.string [118, 97, 108, 117, 101, 32, 111, 117, 116, 32, 111, 102, 32, 114, 97, 110, 103, 101])]))
def laid_strconv_ErrSyntax {H : Type} : DataW H := .iface "*errors.errorString" (.ptr (.agg [.lit (.string [105, 110, 118, 97, 108, 105, 100, 32, 115, 121, 110, 116, 97, 120])]))

/-- 'laws.FnExactGoodPivot': WHATEVER THE INPUT: true; the input reads as it did. -/
def fnExactGoodPivotSpec : ChangeSpec := { name := "fnExactGoodPivot", vars := ["loop.example/g00025/impl.errorTexts"], fn := fun _ => fun
  | [d1, d2, g1] => { results := [.lit (.bool true)], args := [d1, d2], vars := [g1] }
  | _ => none }
def fnExactGoodPivotRow : OpenClaim := { program := "ytjemnnndifeagaadoor", sum := "7040840bad11afa8db7f73209e3ff197e1f923ddac9a08c8e9824f41db9a06e3", func := "loop.example/g00025/laws.FnExactGoodPivot", spec := "fnExactGoodPivot", named := ["loop.example/g00025/impl.errorTexts"], apart := false, laid := [("loop.example/g00025/impl.errorTexts", laid_loop_example_g00025_impl_errorTexts)] }
def FnExactGoodPivotSaid : Prop := fnExactGoodPivotRow.holds Tryd.pinned (OpenSpec.ofChange fnExactGoodPivotSpec)

/-- ITS FALSE NEIGHBOUR: 'it returns false'. Refute it at one input. -/
def fnExactGoodPivotWrong : ChangeSpec := { name := "fnExactGoodPivot", vars := ["loop.example/g00025/impl.errorTexts"], fn := fun _ => fun
  | [d1, d2, g1] => { results := [.lit (.bool false)], args := [d1, d2], vars := [g1] }
  | _ => none }
def FnExactGoodPivotWrongFalsely : Prop := fnExactGoodPivotRow.holds Tryd.pinned (OpenSpec.ofChange fnExactGoodPivotWrong)

/-- 'laws.FnExactReadFormat': WHATEVER THE INPUT: true; the input reads as it did. -/
def fnExactReadFormatSpec : ChangeSpec := { name := "fnExactReadFormat", vars := ["loop.example/g00025/impl.dateTokens"], fn := fun _ => fun
  | [d, g1] => { results := [.lit (.bool true)], args := [d], vars := [g1] }
  | _ => none }
def fnExactReadFormatRow : OpenClaim := { program := "ytjemnnndifeagaadoor", sum := "7040840bad11afa8db7f73209e3ff197e1f923ddac9a08c8e9824f41db9a06e3", func := "loop.example/g00025/laws.FnExactReadFormat", spec := "fnExactReadFormat", inPlace := ["internal/bytealg.IndexByteString"], named := ["loop.example/g00025/impl.dateTokens"], apart := false, laid := [("loop.example/g00025/impl.dateTokens", laid_loop_example_g00025_impl_dateTokens)] }
def FnExactReadFormatSaid : Prop := fnExactReadFormatRow.holds Tryd.pinned (OpenSpec.ofChange fnExactReadFormatSpec)

/-- ITS FALSE NEIGHBOUR: 'it returns false'. Refute it at one input. -/
def fnExactReadFormatWrong : ChangeSpec := { name := "fnExactReadFormat", vars := ["loop.example/g00025/impl.dateTokens"], fn := fun _ => fun
  | [d, g1] => { results := [.lit (.bool false)], args := [d], vars := [g1] }
  | _ => none }
def FnExactReadFormatWrongFalsely : Prop := fnExactReadFormatRow.holds Tryd.pinned (OpenSpec.ofChange fnExactReadFormatWrong)

/-- 'laws.FnExactRefTextBy': WHATEVER THE INPUT: true; the input reads as it did. -/
def fnExactRefTextBySpec : ChangeSpec := { name := "fnExactRefTextBy", fn := fun _ => fun
  | [d1, d2, d3] => { results := [.lit (.bool true)], args := [d1, d2, d3] }
  | _ => none }
def fnExactRefTextByRow : OpenClaim := { program := "ytjemnnndifeagaadoor", sum := "7040840bad11afa8db7f73209e3ff197e1f923ddac9a08c8e9824f41db9a06e3", func := "loop.example/g00025/laws.FnExactRefTextBy", spec := "fnExactRefTextBy", named := ["internal/strconv.uint64pow10", "math/bits.deBruijn32tab", "math/bits.deBruijn64tab"], apart := false, laid := [("math/bits.deBruijn32tab", laid_math_bits_deBruijn32tab), ("math/bits.deBruijn64tab", laid_math_bits_deBruijn64tab), ("internal/strconv.uint64pow10", laid_internal_strconv_uint64pow10)] }
def FnExactRefTextBySaid : Prop := fnExactRefTextByRow.holds Tryd.pinned (OpenSpec.ofChange fnExactRefTextBySpec)

/-- ITS FALSE NEIGHBOUR: 'it returns false'. Refute it at one input. -/
def fnExactRefTextByWrong : ChangeSpec := { name := "fnExactRefTextBy", fn := fun _ => fun
  | [d1, d2, d3] => { results := [.lit (.bool false)], args := [d1, d2, d3] }
  | _ => none }
def FnExactRefTextByWrongFalsely : Prop := fnExactRefTextByRow.holds Tryd.pinned (OpenSpec.ofChange fnExactRefTextByWrong)

/-- 'laws.FnExactDateText': WHATEVER THE INPUT: true; the input reads as it did. -/
def fnExactDateTextSpec : ChangeSpec := { name := "fnExactDateText", fn := fun _ => fun
  | [d] => { results := [.lit (.bool true)], args := [d] }
  | _ => none }
def fnExactDateTextRow : OpenClaim := { program := "ytjemnnndifeagaadoor", sum := "7040840bad11afa8db7f73209e3ff197e1f923ddac9a08c8e9824f41db9a06e3", func := "loop.example/g00025/laws.FnExactDateText", spec := "fnExactDateText", named := ["internal/strconv.uint64pow10", "math/bits.deBruijn32tab", "math/bits.deBruijn64tab"], apart := false, laid := [("math/bits.deBruijn32tab", laid_math_bits_deBruijn32tab), ("math/bits.deBruijn64tab", laid_math_bits_deBruijn64tab), ("internal/strconv.uint64pow10", laid_internal_strconv_uint64pow10)] }
def FnExactDateTextSaid : Prop := fnExactDateTextRow.holds Tryd.pinned (OpenSpec.ofChange fnExactDateTextSpec)

/-- ITS FALSE NEIGHBOUR: 'it returns false'. Refute it at one input. -/
def fnExactDateTextWrong : ChangeSpec := { name := "fnExactDateText", fn := fun _ => fun
  | [d] => { results := [.lit (.bool false)], args := [d] }
  | _ => none }
def FnExactDateTextWrongFalsely : Prop := fnExactDateTextRow.holds Tryd.pinned (OpenSpec.ofChange fnExactDateTextWrong)

/-- 'laws.FnExactRefText': WHATEVER THE INPUT: true; the input reads as it did. -/
def fnExactRefTextSpec : ChangeSpec := { name := "fnExactRefText", fn := fun _ => fun
  | [d] => { results := [.lit (.bool true)], args := [d] }
  | _ => none }
def fnExactRefTextRow : OpenClaim := { program := "ytjemnnndifeagaadoor", sum := "7040840bad11afa8db7f73209e3ff197e1f923ddac9a08c8e9824f41db9a06e3", func := "loop.example/g00025/laws.FnExactRefText", spec := "fnExactRefText", named := ["internal/strconv.uint64pow10", "math/bits.deBruijn32tab", "math/bits.deBruijn64tab"], apart := false, laid := [("math/bits.deBruijn32tab", laid_math_bits_deBruijn32tab), ("math/bits.deBruijn64tab", laid_math_bits_deBruijn64tab), ("internal/strconv.uint64pow10", laid_internal_strconv_uint64pow10)] }
def FnExactRefTextSaid : Prop := fnExactRefTextRow.holds Tryd.pinned (OpenSpec.ofChange fnExactRefTextSpec)

/-- ITS FALSE NEIGHBOUR: 'it returns false'. Refute it at one input. -/
def fnExactRefTextWrong : ChangeSpec := { name := "fnExactRefText", fn := fun _ => fun
  | [d] => { results := [.lit (.bool false)], args := [d] }
  | _ => none }
def FnExactRefTextWrongFalsely : Prop := fnExactRefTextRow.holds Tryd.pinned (OpenSpec.ofChange fnExactRefTextWrong)

/-- 'laws.FnExactDecText': WHATEVER THE INPUT: true; the input reads as it did. -/
def fnExactDecTextSpec : ChangeSpec := { name := "fnExactDecText", fn := fun _ => fun
  | [d] => { results := [.lit (.bool true)], args := [d] }
  | _ => none }
def fnExactDecTextRow : OpenClaim := { program := "ytjemnnndifeagaadoor", sum := "7040840bad11afa8db7f73209e3ff197e1f923ddac9a08c8e9824f41db9a06e3", func := "loop.example/g00025/laws.FnExactDecText", spec := "fnExactDecText", inPlace := ["internal/abi.NoEscape", "internal/bytealg.MakeNoZero"], named := ["internal/strconv.uint64pow10", "math/bits.deBruijn32tab", "math/bits.deBruijn64tab"], apart := false, laid := [("math/bits.deBruijn32tab", laid_math_bits_deBruijn32tab), ("math/bits.deBruijn64tab", laid_math_bits_deBruijn64tab), ("internal/strconv.uint64pow10", laid_internal_strconv_uint64pow10)] }
def FnExactDecTextSaid : Prop := fnExactDecTextRow.holds Tryd.pinned (OpenSpec.ofChange fnExactDecTextSpec)

/-- ITS FALSE NEIGHBOUR: 'it returns false'. Refute it at one input. -/
def fnExactDecTextWrong : ChangeSpec := { name := "fnExactDecText", fn := fun _ => fun
  | [d] => { results := [.lit (.bool false)], args := [d] }
  | _ => none }
def FnExactDecTextWrongFalsely : Prop := fnExactDecTextRow.holds Tryd.pinned (OpenSpec.ofChange fnExactDecTextWrong)

/-- 'laws.FnExactFormatCode': WHATEVER THE INPUT: true; the input reads as it did. -/
def fnExactFormatCodeSpec : ChangeSpec := { name := "fnExactFormatCode", vars := ["loop.example/g00025/impl.dateTokens"], fn := fun _ => fun
  | [d, g1] => { results := [.lit (.bool true)], args := [d], vars := [g1] }
  | _ => none }
def fnExactFormatCodeRow : OpenClaim := { program := "ytjemnnndifeagaadoor", sum := "7040840bad11afa8db7f73209e3ff197e1f923ddac9a08c8e9824f41db9a06e3", func := "loop.example/g00025/laws.FnExactFormatCode", spec := "fnExactFormatCode", inPlace := ["internal/abi.NoEscape", "internal/bytealg.MakeNoZero", "internal/bytealg.IndexByteString"], unfollowed := true, recurses := true, named := ["loop.example/g00025/impl.dateTokens"], apart := false, laid := [("loop.example/g00025/impl.dateTokens", laid_loop_example_g00025_impl_dateTokens)] }
def FnExactFormatCodeSaid : Prop := fnExactFormatCodeRow.holds Tryd.pinned (OpenSpec.ofChange fnExactFormatCodeSpec)

/-- ITS FALSE NEIGHBOUR: 'it returns false'. Refute it at one input. -/
def fnExactFormatCodeWrong : ChangeSpec := { name := "fnExactFormatCode", vars := ["loop.example/g00025/impl.dateTokens"], fn := fun _ => fun
  | [d, g1] => { results := [.lit (.bool false)], args := [d], vars := [g1] }
  | _ => none }
def FnExactFormatCodeWrongFalsely : Prop := fnExactFormatCodeRow.holds Tryd.pinned (OpenSpec.ofChange fnExactFormatCodeWrong)

/-- 'laws.FnExactReadRef': WHATEVER THE INPUT: true; the input reads as it did. -/
def fnExactReadRefSpec : ChangeSpec := { name := "fnExactReadRef", fn := fun _ => fun
  | [d] => { results := [.lit (.bool true)], args := [d] }
  | _ => none }
def fnExactReadRefRow : OpenClaim := { program := "ytjemnnndifeagaadoor", sum := "7040840bad11afa8db7f73209e3ff197e1f923ddac9a08c8e9824f41db9a06e3", func := "loop.example/g00025/laws.FnExactReadRef", spec := "fnExactReadRef", named := ["strconv.ErrSyntax", "strconv.ErrRange", "internal/strconv.uint64pow10", "math/bits.deBruijn32tab", "math/bits.deBruijn64tab"], apart := false, laid := [("math/bits.deBruijn32tab", laid_math_bits_deBruijn32tab), ("math/bits.deBruijn64tab", laid_math_bits_deBruijn64tab), ("internal/strconv.uint64pow10", laid_internal_strconv_uint64pow10), ("strconv.ErrRange", laid_strconv_ErrRange), ("strconv.ErrSyntax", laid_strconv_ErrSyntax)] }
def FnExactReadRefSaid : Prop := fnExactReadRefRow.holds Tryd.pinned (OpenSpec.ofChange fnExactReadRefSpec)

/-- ITS FALSE NEIGHBOUR: 'it returns false'. Refute it at one input. -/
def fnExactReadRefWrong : ChangeSpec := { name := "fnExactReadRef", fn := fun _ => fun
  | [d] => { results := [.lit (.bool false)], args := [d] }
  | _ => none }
def FnExactReadRefWrongFalsely : Prop := fnExactReadRefRow.holds Tryd.pinned (OpenSpec.ofChange fnExactReadRefWrong)

/-- 'laws.FnExactShowValue': WHATEVER THE INPUT: true; the input reads as it did. -/
def fnExactShowValueSpec : ChangeSpec := { name := "fnExactShowValue", vars := ["loop.example/g00025/impl.errorTexts"], fn := fun _ => fun
  | [d, g1] => { results := [.lit (.bool true)], args := [d], vars := [g1] }
  | _ => none }
def fnExactShowValueRow : OpenClaim := { program := "ytjemnnndifeagaadoor", sum := "7040840bad11afa8db7f73209e3ff197e1f923ddac9a08c8e9824f41db9a06e3", func := "loop.example/g00025/laws.FnExactShowValue", spec := "fnExactShowValue", inPlace := ["internal/abi.NoEscape", "internal/bytealg.MakeNoZero"], named := ["loop.example/g00025/impl.errorTexts", "internal/strconv.uint64pow10", "math/bits.deBruijn32tab", "math/bits.deBruijn64tab"], apart := false, laid := [("math/bits.deBruijn32tab", laid_math_bits_deBruijn32tab), ("math/bits.deBruijn64tab", laid_math_bits_deBruijn64tab), ("internal/strconv.uint64pow10", laid_internal_strconv_uint64pow10), ("loop.example/g00025/impl.errorTexts", laid_loop_example_g00025_impl_errorTexts)] }
def FnExactShowValueSaid : Prop := fnExactShowValueRow.holds Tryd.pinned (OpenSpec.ofChange fnExactShowValueSpec)

/-- ITS FALSE NEIGHBOUR: 'it returns false'. Refute it at one input. -/
def fnExactShowValueWrong : ChangeSpec := { name := "fnExactShowValue", vars := ["loop.example/g00025/impl.errorTexts"], fn := fun _ => fun
  | [d, g1] => { results := [.lit (.bool false)], args := [d], vars := [g1] }
  | _ => none }
def FnExactShowValueWrongFalsely : Prop := fnExactShowValueRow.holds Tryd.pinned (OpenSpec.ofChange fnExactShowValueWrong)

/- THE SECOND FORM. 'bulk': how many values and letters a reading holds, each counted each time it is reached (what is shared counts as often as it is met; a slice's spare places count too). A statement '..UptoSaid' is the law's where the arguments, and the package variables that the reading takes, are together of bulk at most 1048576: NARROWER than '..Said'. Prove '..Said' where nothing that the law and all that it calls make is longer than what came in: it says more and counts as full. Else prove '..UptoSaid'. A law counts once. -/
mutual
def uptoBulk {H : Type} : DataW H → Nat
  | .lit (.string bytes) => bytes.length + 1
  | .lit _ => 1
  | .nil => 1
  | .ptr d => uptoBulk d + 1
  | .slice elems spare => uptoBulkAll elems + uptoBulkAll spare + 1
  | .agg parts => uptoBulkAll parts + 1
  | .iface _ d => uptoBulk d + 1
  | .map entries => uptoBulkEntries entries + 1
  | .held _ => 1
def uptoBulkAll {H : Type} : List (DataW H) → Nat
  | [] => 0
  | d :: r => uptoBulk d + uptoBulkAll r
def uptoBulkEntries {H : Type} : List (Lit × DataW H) → Nat
  | [] => 0
  | x :: r => uptoBulkEntry x + uptoBulkEntries r
def uptoBulkEntry {H : Type} : Lit × DataW H → Nat
  | (.string bytes, d) => bytes.length + uptoBulk d + 1
  | (_, d) => uptoBulk d + 1
 end
def uptoSmall : (H : Type) → List (DataW H) → Bool := fun _ ds => decide (uptoBulkAll ds ≤ 1048576)
def OpenSpec.upto (s : _root_.Go.ChangeSpec) : _root_.Go.OpenSpec := { _root_.Go.OpenSpec.ofChange s with cond := some uptoSmall }

/-- 'laws.FnExactGoodPivot', WHERE WHAT IT READS IS OF BULK AT MOST 1048576: true; the input reads as it did. -/
def fnExactGoodPivotUptoRow : OpenClaim := { program := "ytjemnnndifeagaadoor", sum := "7040840bad11afa8db7f73209e3ff197e1f923ddac9a08c8e9824f41db9a06e3", func := "loop.example/g00025/laws.FnExactGoodPivot", spec := "fnExactGoodPivot", named := ["loop.example/g00025/impl.errorTexts"], apart := false, laid := [("loop.example/g00025/impl.errorTexts", laid_loop_example_g00025_impl_errorTexts)], narrowed := true }
def FnExactGoodPivotUptoSaid : Prop := fnExactGoodPivotUptoRow.holds Tryd.pinned (OpenSpec.upto fnExactGoodPivotSpec)

/-- 'laws.FnExactReadFormat', WHERE WHAT IT READS IS OF BULK AT MOST 1048576: true; the input reads as it did. -/
def fnExactReadFormatUptoRow : OpenClaim := { program := "ytjemnnndifeagaadoor", sum := "7040840bad11afa8db7f73209e3ff197e1f923ddac9a08c8e9824f41db9a06e3", func := "loop.example/g00025/laws.FnExactReadFormat", spec := "fnExactReadFormat", inPlace := ["internal/bytealg.IndexByteString"], named := ["loop.example/g00025/impl.dateTokens"], apart := false, laid := [("loop.example/g00025/impl.dateTokens", laid_loop_example_g00025_impl_dateTokens)], narrowed := true }
def FnExactReadFormatUptoSaid : Prop := fnExactReadFormatUptoRow.holds Tryd.pinned (OpenSpec.upto fnExactReadFormatSpec)

/-- 'laws.FnExactRefTextBy', WHERE WHAT IT READS IS OF BULK AT MOST 1048576: true; the input reads as it did. -/
def fnExactRefTextByUptoRow : OpenClaim := { program := "ytjemnnndifeagaadoor", sum := "7040840bad11afa8db7f73209e3ff197e1f923ddac9a08c8e9824f41db9a06e3", func := "loop.example/g00025/laws.FnExactRefTextBy", spec := "fnExactRefTextBy", named := ["internal/strconv.uint64pow10", "math/bits.deBruijn32tab", "math/bits.deBruijn64tab"], apart := false, laid := [("math/bits.deBruijn32tab", laid_math_bits_deBruijn32tab), ("math/bits.deBruijn64tab", laid_math_bits_deBruijn64tab), ("internal/strconv.uint64pow10", laid_internal_strconv_uint64pow10)], narrowed := true }
def FnExactRefTextByUptoSaid : Prop := fnExactRefTextByUptoRow.holds Tryd.pinned (OpenSpec.upto fnExactRefTextBySpec)

/-- 'laws.FnExactDateText', WHERE WHAT IT READS IS OF BULK AT MOST 1048576: true; the input reads as it did. -/
def fnExactDateTextUptoRow : OpenClaim := { program := "ytjemnnndifeagaadoor", sum := "7040840bad11afa8db7f73209e3ff197e1f923ddac9a08c8e9824f41db9a06e3", func := "loop.example/g00025/laws.FnExactDateText", spec := "fnExactDateText", named := ["internal/strconv.uint64pow10", "math/bits.deBruijn32tab", "math/bits.deBruijn64tab"], apart := false, laid := [("math/bits.deBruijn32tab", laid_math_bits_deBruijn32tab), ("math/bits.deBruijn64tab", laid_math_bits_deBruijn64tab), ("internal/strconv.uint64pow10", laid_internal_strconv_uint64pow10)], narrowed := true }
def FnExactDateTextUptoSaid : Prop := fnExactDateTextUptoRow.holds Tryd.pinned (OpenSpec.upto fnExactDateTextSpec)

/-- 'laws.FnExactRefText', WHERE WHAT IT READS IS OF BULK AT MOST 1048576: true; the input reads as it did. -/
def fnExactRefTextUptoRow : OpenClaim := { program := "ytjemnnndifeagaadoor", sum := "7040840bad11afa8db7f73209e3ff197e1f923ddac9a08c8e9824f41db9a06e3", func := "loop.example/g00025/laws.FnExactRefText", spec := "fnExactRefText", named := ["internal/strconv.uint64pow10", "math/bits.deBruijn32tab", "math/bits.deBruijn64tab"], apart := false, laid := [("math/bits.deBruijn32tab", laid_math_bits_deBruijn32tab), ("math/bits.deBruijn64tab", laid_math_bits_deBruijn64tab), ("internal/strconv.uint64pow10", laid_internal_strconv_uint64pow10)], narrowed := true }
def FnExactRefTextUptoSaid : Prop := fnExactRefTextUptoRow.holds Tryd.pinned (OpenSpec.upto fnExactRefTextSpec)

/-- 'laws.FnExactDecText', WHERE WHAT IT READS IS OF BULK AT MOST 1048576: true; the input reads as it did. -/
def fnExactDecTextUptoRow : OpenClaim := { program := "ytjemnnndifeagaadoor", sum := "7040840bad11afa8db7f73209e3ff197e1f923ddac9a08c8e9824f41db9a06e3", func := "loop.example/g00025/laws.FnExactDecText", spec := "fnExactDecText", inPlace := ["internal/abi.NoEscape", "internal/bytealg.MakeNoZero"], named := ["internal/strconv.uint64pow10", "math/bits.deBruijn32tab", "math/bits.deBruijn64tab"], apart := false, laid := [("math/bits.deBruijn32tab", laid_math_bits_deBruijn32tab), ("math/bits.deBruijn64tab", laid_math_bits_deBruijn64tab), ("internal/strconv.uint64pow10", laid_internal_strconv_uint64pow10)], narrowed := true }
def FnExactDecTextUptoSaid : Prop := fnExactDecTextUptoRow.holds Tryd.pinned (OpenSpec.upto fnExactDecTextSpec)

/-- 'laws.FnExactFormatCode', WHERE WHAT IT READS IS OF BULK AT MOST 1048576: true; the input reads as it did. -/
def fnExactFormatCodeUptoRow : OpenClaim := { program := "ytjemnnndifeagaadoor", sum := "7040840bad11afa8db7f73209e3ff197e1f923ddac9a08c8e9824f41db9a06e3", func := "loop.example/g00025/laws.FnExactFormatCode", spec := "fnExactFormatCode", inPlace := ["internal/abi.NoEscape", "internal/bytealg.MakeNoZero", "internal/bytealg.IndexByteString"], unfollowed := true, recurses := true, named := ["loop.example/g00025/impl.dateTokens"], apart := false, laid := [("loop.example/g00025/impl.dateTokens", laid_loop_example_g00025_impl_dateTokens)], narrowed := true }
def FnExactFormatCodeUptoSaid : Prop := fnExactFormatCodeUptoRow.holds Tryd.pinned (OpenSpec.upto fnExactFormatCodeSpec)

/-- 'laws.FnExactReadRef', WHERE WHAT IT READS IS OF BULK AT MOST 1048576: true; the input reads as it did. -/
def fnExactReadRefUptoRow : OpenClaim := { program := "ytjemnnndifeagaadoor", sum := "7040840bad11afa8db7f73209e3ff197e1f923ddac9a08c8e9824f41db9a06e3", func := "loop.example/g00025/laws.FnExactReadRef", spec := "fnExactReadRef", named := ["strconv.ErrSyntax", "strconv.ErrRange", "internal/strconv.uint64pow10", "math/bits.deBruijn32tab", "math/bits.deBruijn64tab"], apart := false, laid := [("math/bits.deBruijn32tab", laid_math_bits_deBruijn32tab), ("math/bits.deBruijn64tab", laid_math_bits_deBruijn64tab), ("internal/strconv.uint64pow10", laid_internal_strconv_uint64pow10), ("strconv.ErrRange", laid_strconv_ErrRange), ("strconv.ErrSyntax", laid_strconv_ErrSyntax)], narrowed := true }
def FnExactReadRefUptoSaid : Prop := fnExactReadRefUptoRow.holds Tryd.pinned (OpenSpec.upto fnExactReadRefSpec)

/-- 'laws.FnExactShowValue', WHERE WHAT IT READS IS OF BULK AT MOST 1048576: true; the input reads as it did. -/
def fnExactShowValueUptoRow : OpenClaim := { program := "ytjemnnndifeagaadoor", sum := "7040840bad11afa8db7f73209e3ff197e1f923ddac9a08c8e9824f41db9a06e3", func := "loop.example/g00025/laws.FnExactShowValue", spec := "fnExactShowValue", inPlace := ["internal/abi.NoEscape", "internal/bytealg.MakeNoZero"], named := ["loop.example/g00025/impl.errorTexts", "internal/strconv.uint64pow10", "math/bits.deBruijn32tab", "math/bits.deBruijn64tab"], apart := false, laid := [("math/bits.deBruijn32tab", laid_math_bits_deBruijn32tab), ("math/bits.deBruijn64tab", laid_math_bits_deBruijn64tab), ("internal/strconv.uint64pow10", laid_internal_strconv_uint64pow10), ("loop.example/g00025/impl.errorTexts", laid_loop_example_g00025_impl_errorTexts)], narrowed := true }
def FnExactShowValueUptoSaid : Prop := fnExactShowValueUptoRow.holds Tryd.pinned (OpenSpec.upto fnExactShowValueSpec)

end Rows
end Go.Proofs.YtjemnnndifeagaaDoor
