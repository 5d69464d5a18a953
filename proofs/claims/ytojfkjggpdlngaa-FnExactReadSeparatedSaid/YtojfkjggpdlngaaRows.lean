/-
  No cell of these rows narrows 'for every input' (looked for: loops, veiled, ifaces, maps, wideKeys, modest, calm, conditions, laid).
  DERIVED. THE GIVEN ROWS OF THIS SEAT. 5 by the template 'for every input the law returns true; each argument reads behind the call as it read before'; 0 by the template 'total and deterministic' (their statements: YtojfkjggpdlngaaTotals.lean).
  GIVEN WITH THE SEED: the statements are not yours to turn. If you find one false, say at which input.
  Laid BY PROGRAM, IN A SANDBOX (cutbox-rows.mjs): the forced cells as the released guide's own fill.sh prints them over the translation 4f72dbb3b767a02a… (all of the seat's roots in one cut). By AI agents, Wed Nov 11 2026. No macro, syntax, notation, axiom, sorry.
-/
import Derived.Test.YtojfkjggpdlngaaChecked
import GoSem.Claim
import GoSem.ClaimJoined
import GoSem.ClaimMapViews
import Derived.JoinedTies
import Derived.KernelRfl
namespace Go.Proofs.Ytojfkjggpdlngaa
/- THE CELL 'sum', in the pinned program and in every row, IS THE sha256 OF THE DUMP (.gsa) THAT YtojfkjggpdlngaaProg.lean LOADS. Nothing in Lean hashes anything: it is a label: what it is worth is what the hold of that sum in a sandbox is worth. -/
noncomputable def Try.pinned : Pinned := { name := "ytojfkjggpdlngaa", sum := "4f72dbb3b767a02a91e8a533ca4a9647f4605e906e3f49450b2aa0e9128ba4f0", checked := Try.checked }
namespace Rows
def none {H : Type} : Left H := { results := [], args := [] }

/-- 'laws.FnWorkdays': WHATEVER THE INPUT: true; the input reads as it did. -/
def fnWorkdaysSpec : ChangeSpec := { name := "fnWorkdays", fn := fun _ => fun
  | [d1, d2] => { results := [.lit (.bool true)], args := [d1, d2] }
  | _ => none }
def fnWorkdaysRow : OpenClaim := { program := "ytojfkjggpdlngaa", sum := "4f72dbb3b767a02a91e8a533ca4a9647f4605e906e3f49450b2aa0e9128ba4f0", func := "loop.example/g00025/laws.FnWorkdays", spec := "fnWorkdays", recurses := true, apart := false }
def FnWorkdaysSaid : Prop := fnWorkdaysRow.holds Try.pinned (OpenSpec.ofChange fnWorkdaysSpec)

/-- ITS FALSE NEIGHBOUR: 'it returns false'. Refute it at one input. -/
def fnWorkdaysWrong : ChangeSpec := { name := "fnWorkdays", fn := fun _ => fun
  | [d1, d2] => { results := [.lit (.bool false)], args := [d1, d2] }
  | _ => none }
def FnWorkdaysWrongFalsely : Prop := fnWorkdaysRow.holds Try.pinned (OpenSpec.ofChange fnWorkdaysWrong)

/-- 'laws.FnAreas': WHATEVER THE INPUT: true; the input reads as it did. -/
def fnAreasSpec : ChangeSpec := { name := "fnAreas", fn := fun _ => fun
  | [d] => { results := [.lit (.bool true)], args := [d] }
  | _ => none }
def fnAreasRow : OpenClaim := { program := "ytojfkjggpdlngaa", sum := "4f72dbb3b767a02a91e8a533ca4a9647f4605e906e3f49450b2aa0e9128ba4f0", func := "loop.example/g00025/laws.FnAreas", spec := "fnAreas", unfollowed := true, recurses := true, apart := false }
def FnAreasSaid : Prop := fnAreasRow.holds Try.pinned (OpenSpec.ofChange fnAreasSpec)

/-- ITS FALSE NEIGHBOUR: 'it returns false'. Refute it at one input. -/
def fnAreasWrong : ChangeSpec := { name := "fnAreas", fn := fun _ => fun
  | [d] => { results := [.lit (.bool false)], args := [d] }
  | _ => none }
def FnAreasWrongFalsely : Prop := fnAreasRow.holds Try.pinned (OpenSpec.ofChange fnAreasWrong)

/-- 'laws.FnExactReadSeparated': WHATEVER THE INPUT: true; the input reads as it did. -/
def fnExactReadSeparatedSpec : ChangeSpec := { name := "fnExactReadSeparated", fn := fun _ => fun
  | [d1, d2] => { results := [.lit (.bool true)], args := [d1, d2] }
  | _ => none }
def fnExactReadSeparatedRow : OpenClaim := { program := "ytojfkjggpdlngaa", sum := "4f72dbb3b767a02a91e8a533ca4a9647f4605e906e3f49450b2aa0e9128ba4f0", func := "loop.example/g00025/laws.FnExactReadSeparated", spec := "fnExactReadSeparated", apart := false }
def FnExactReadSeparatedSaid : Prop := fnExactReadSeparatedRow.holds Try.pinned (OpenSpec.ofChange fnExactReadSeparatedSpec)

/-- ITS FALSE NEIGHBOUR: 'it returns false'. Refute it at one input. -/
def fnExactReadSeparatedWrong : ChangeSpec := { name := "fnExactReadSeparated", fn := fun _ => fun
  | [d1, d2] => { results := [.lit (.bool false)], args := [d1, d2] }
  | _ => none }
def FnExactReadSeparatedWrongFalsely : Prop := fnExactReadSeparatedRow.holds Try.pinned (OpenSpec.ofChange fnExactReadSeparatedWrong)

/-- 'laws.FnExactWithout': WHATEVER THE INPUT: true; the input reads as it did. -/
def fnExactWithoutSpec : ChangeSpec := { name := "fnExactWithout", fn := fun _ => fun
  | [d1, d2] => { results := [.lit (.bool true)], args := [d1, d2] }
  | _ => none }
def fnExactWithoutRow : OpenClaim := { program := "ytojfkjggpdlngaa", sum := "4f72dbb3b767a02a91e8a533ca4a9647f4605e906e3f49450b2aa0e9128ba4f0", func := "loop.example/g00025/laws.FnExactWithout", spec := "fnExactWithout", unfollowed := true, recurses := true, apart := false }
def FnExactWithoutSaid : Prop := fnExactWithoutRow.holds Try.pinned (OpenSpec.ofChange fnExactWithoutSpec)

/-- ITS FALSE NEIGHBOUR: 'it returns false'. Refute it at one input. -/
def fnExactWithoutWrong : ChangeSpec := { name := "fnExactWithout", fn := fun _ => fun
  | [d1, d2] => { results := [.lit (.bool false)], args := [d1, d2] }
  | _ => none }
def FnExactWithoutWrongFalsely : Prop := fnExactWithoutRow.holds Try.pinned (OpenSpec.ofChange fnExactWithoutWrong)

/-- 'laws.FnExactDiffer': WHATEVER THE INPUT: true; the input reads as it did. -/
def fnExactDifferSpec : ChangeSpec := { name := "fnExactDiffer", fn := fun _ => fun
  | [d1, d2] => { results := [.lit (.bool true)], args := [d1, d2] }
  | _ => none }
def fnExactDifferRow : OpenClaim := { program := "ytojfkjggpdlngaa", sum := "4f72dbb3b767a02a91e8a533ca4a9647f4605e906e3f49450b2aa0e9128ba4f0", func := "loop.example/g00025/laws.FnExactDiffer", spec := "fnExactDiffer", apart := false }
def FnExactDifferSaid : Prop := fnExactDifferRow.holds Try.pinned (OpenSpec.ofChange fnExactDifferSpec)

/-- ITS FALSE NEIGHBOUR: 'it returns false'. Refute it at one input. -/
def fnExactDifferWrong : ChangeSpec := { name := "fnExactDiffer", fn := fun _ => fun
  | [d1, d2] => { results := [.lit (.bool false)], args := [d1, d2] }
  | _ => none }
def FnExactDifferWrongFalsely : Prop := fnExactDifferRow.holds Try.pinned (OpenSpec.ofChange fnExactDifferWrong)

/- THE SECOND FORM. 'bulk': how many values and letters a reading holds, each counted each time it is reached (what is shared counts as often as it is met; a slice's spare places count too). A statement '..UptoSaid' is the law's where the arguments, and the package variables that the reading takes, are together of bulk at most 1048576: NARROWER than '..Said'. Prove '..Said' where nothing that the law and all that it calls make is longer than what came in: it says more and counts as full. Else prove '..UptoSaid'. A law counts once. -/
mutual
def uptoBulk {H : Type} : DataW H → Nat
  | .lit (.string bytes) => bytes.length + 1
  | .lit _ => 1
  | .nil => 1
  | .ptr d => uptoBulk d + 1
  | .slice elems spare => uptoBulkAll elems + uptoBulkAll spare + 1
  | .agg parts => uptoBulkAll parts + 1
  | .iface _ d => uptoBulk d + 1
  | .map entries => uptoBulkEntries entries + 1
  | .held _ => 1
def uptoBulkAll {H : Type} : List (DataW H) → Nat
  | [] => 0
  | d :: r => uptoBulk d + uptoBulkAll r
def uptoBulkEntries {H : Type} : List (Lit × DataW H) → Nat
  | [] => 0
  | x :: r => uptoBulkEntry x + uptoBulkEntries r
def uptoBulkEntry {H : Type} : Lit × DataW H → Nat
  | (.string bytes, d) => bytes.length + uptoBulk d + 1
  | (_, d) => uptoBulk d + 1
 end
def uptoSmall : (H : Type) → List (DataW H) → Bool := fun _ ds => decide (uptoBulkAll ds ≤ 1048576)
def OpenSpec.upto (s : _root_.Go.ChangeSpec) : _root_.Go.OpenSpec := { _root_.Go.OpenSpec.ofChange s with cond := some uptoSmall }

/-- 'laws.FnWorkdays', WHERE WHAT IT READS IS OF BULK AT MOST 1048576: true; the input reads as it did. -/
def fnWorkdaysUptoRow : OpenClaim := { program := "ytojfkjggpdlngaa", sum := "4f72dbb3b767a02a91e8a533ca4a9647f4605e906e3f49450b2aa0e9128ba4f0", func := "loop.example/g00025/laws.FnWorkdays", spec := "fnWorkdays", recurses := true, apart := false, narrowed := true }
def FnWorkdaysUptoSaid : Prop := fnWorkdaysUptoRow.holds Try.pinned (OpenSpec.upto fnWorkdaysSpec)

/-- 'laws.FnAreas', WHERE WHAT IT READS IS OF BULK AT MOST 1048576: true; the input reads as it did. -/
def fnAreasUptoRow : OpenClaim := { program := "ytojfkjggpdlngaa", sum := "4f72dbb3b767a02a91e8a533ca4a9647f4605e906e3f49450b2aa0e9128ba4f0", func := "loop.example/g00025/laws.FnAreas", spec := "fnAreas", unfollowed := true, recurses := true, apart := false, narrowed := true }
def FnAreasUptoSaid : Prop := fnAreasUptoRow.holds Try.pinned (OpenSpec.upto fnAreasSpec)

/-- 'laws.FnExactReadSeparated', WHERE WHAT IT READS IS OF BULK AT MOST 1048576: true; the input reads as it did. -/
def fnExactReadSeparatedUptoRow : OpenClaim := { program := "ytojfkjggpdlngaa", sum := "4f72dbb3b767a02a91e8a533ca4a9647f4605e906e3f49450b2aa0e9128ba4f0", func := "loop.example/g00025/laws.FnExactReadSeparated", spec := "fnExactReadSeparated", apart := false, narrowed := true }
def FnExactReadSeparatedUptoSaid : Prop := fnExactReadSeparatedUptoRow.holds Try.pinned (OpenSpec.upto fnExactReadSeparatedSpec)

/-- 'laws.FnExactWithout', WHERE WHAT IT READS IS OF BULK AT MOST 1048576: true; the input reads as it did. -/
def fnExactWithoutUptoRow : OpenClaim := { program := "ytojfkjggpdlngaa", sum := "4f72dbb3b767a02a91e8a533ca4a9647f4605e906e3f49450b2aa0e9128ba4f0", func := "loop.example/g00025/laws.FnExactWithout", spec := "fnExactWithout", unfollowed := true, recurses := true, apart := false, narrowed := true }
def FnExactWithoutUptoSaid : Prop := fnExactWithoutUptoRow.holds Try.pinned (OpenSpec.upto fnExactWithoutSpec)

/-- 'laws.FnExactDiffer', WHERE WHAT IT READS IS OF BULK AT MOST 1048576: true; the input reads as it did. -/
def fnExactDifferUptoRow : OpenClaim := { program := "ytojfkjggpdlngaa", sum := "4f72dbb3b767a02a91e8a533ca4a9647f4605e906e3f49450b2aa0e9128ba4f0", func := "loop.example/g00025/laws.FnExactDiffer", spec := "fnExactDiffer", apart := false, narrowed := true }
def FnExactDifferUptoSaid : Prop := fnExactDifferUptoRow.holds Try.pinned (OpenSpec.upto fnExactDifferSpec)

end Rows
end Go.Proofs.Ytojfkjggpdlngaa
