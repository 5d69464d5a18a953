/-
  No cell of these rows narrows 'for every input' (looked for: loops, veiled, ifaces, maps, wideKeys, modest, calm, conditions, laid).
  DERIVED. THE GIVEN ROWS OF THIS SEAT. 3 by the template 'for every input the law returns true; each argument reads behind the call as it read before'; 0 by the template 'total and deterministic' (their statements: YtffamggcjijobaaTotals.lean).
  GIVEN WITH THE SEED: the statements are not yours to turn. If you find one false, say at which input.
  Laid BY PROGRAM, IN A SANDBOX (cutbox-rows.mjs): the forced cells as the released guide's own fill.sh prints them over the translation 2c994a41806526d6… (all of the seat's roots in one cut). By AI agents, Wed Nov 11 2026. No macro, syntax, notation, axiom, sorry.
-/
import Derived.Test.YtffamggcjijobaaChecked
import GoSem.Claim
import GoSem.ClaimJoined
import GoSem.ClaimMapViews
import Derived.JoinedTies
import Derived.KernelRfl
namespace Go.Proofs.Ytffamggcjijobaa
/- THE CELL 'sum', in the pinned program and in every row, IS THE sha256 OF THE DUMP (.gsa) THAT YtffamggcjijobaaProg.lean LOADS. Nothing in Lean hashes anything: it is a label: what it is worth is what the hold of that sum in a sandbox is worth. -/
noncomputable def Try.pinned : Pinned := { name := "ytffamggcjijobaa", sum := "2c994a41806526d6f201c5f945906a8b8429f24d4f3bf53f383a42b671114482", checked := Try.checked }
namespace Rows
def none {H : Type} : Left H := { results := [], args := [] }

/-- 'laws.FnExactLastUndo': WHATEVER THE INPUT: true; the input reads as it did. -/
def fnExactLastUndoSpec : ChangeSpec := { name := "fnExactLastUndo", fn := fun _ => fun
  | [d] => { results := [.lit (.bool true)], args := [d] }
  | _ => none }
def fnExactLastUndoRow : OpenClaim := { program := "ytffamggcjijobaa", sum := "2c994a41806526d6f201c5f945906a8b8429f24d4f3bf53f383a42b671114482", func := "loop.example/g00025/laws.FnExactLastUndo", spec := "fnExactLastUndo", unfollowed := true, recurses := true, apart := false }
def FnExactLastUndoSaid : Prop := fnExactLastUndoRow.holds Try.pinned (OpenSpec.ofChange fnExactLastUndoSpec)

/-- ITS FALSE NEIGHBOUR: 'it returns false'. Refute it at one input. -/
def fnExactLastUndoWrong : ChangeSpec := { name := "fnExactLastUndo", fn := fun _ => fun
  | [d] => { results := [.lit (.bool false)], args := [d] }
  | _ => none }
def FnExactLastUndoWrongFalsely : Prop := fnExactLastUndoRow.holds Try.pinned (OpenSpec.ofChange fnExactLastUndoWrong)

/-- 'laws.FnExactLastRedo': WHATEVER THE INPUT: true; the input reads as it did. -/
def fnExactLastRedoSpec : ChangeSpec := { name := "fnExactLastRedo", fn := fun _ => fun
  | [d] => { results := [.lit (.bool true)], args := [d] }
  | _ => none }
def fnExactLastRedoRow : OpenClaim := { program := "ytffamggcjijobaa", sum := "2c994a41806526d6f201c5f945906a8b8429f24d4f3bf53f383a42b671114482", func := "loop.example/g00025/laws.FnExactLastRedo", spec := "fnExactLastRedo", unfollowed := true, recurses := true, apart := false }
def FnExactLastRedoSaid : Prop := fnExactLastRedoRow.holds Try.pinned (OpenSpec.ofChange fnExactLastRedoSpec)

/-- ITS FALSE NEIGHBOUR: 'it returns false'. Refute it at one input. -/
def fnExactLastRedoWrong : ChangeSpec := { name := "fnExactLastRedo", fn := fun _ => fun
  | [d] => { results := [.lit (.bool false)], args := [d] }
  | _ => none }
def FnExactLastRedoWrongFalsely : Prop := fnExactLastRedoRow.holds Try.pinned (OpenSpec.ofChange fnExactLastRedoWrong)

/-- 'laws.FnExactStanding': WHATEVER THE INPUT: true; the input reads as it did. -/
def fnExactStandingSpec : ChangeSpec := { name := "fnExactStanding", fn := fun _ => fun
  | [d] => { results := [.lit (.bool true)], args := [d] }
  | _ => none }
def fnExactStandingRow : OpenClaim := { program := "ytffamggcjijobaa", sum := "2c994a41806526d6f201c5f945906a8b8429f24d4f3bf53f383a42b671114482", func := "loop.example/g00025/laws.FnExactStanding", spec := "fnExactStanding", apart := false }
def FnExactStandingSaid : Prop := fnExactStandingRow.holds Try.pinned (OpenSpec.ofChange fnExactStandingSpec)

/-- ITS FALSE NEIGHBOUR: 'it returns false'. Refute it at one input. -/
def fnExactStandingWrong : ChangeSpec := { name := "fnExactStanding", fn := fun _ => fun
  | [d] => { results := [.lit (.bool false)], args := [d] }
  | _ => none }
def FnExactStandingWrongFalsely : Prop := fnExactStandingRow.holds Try.pinned (OpenSpec.ofChange fnExactStandingWrong)

/- THE SECOND FORM. 'bulk': how many values and letters a reading holds, each counted each time it is reached (what is shared counts as often as it is met; a slice's spare places count too). A statement '..UptoSaid' is the law's where the arguments, and the package variables that the reading takes, are together of bulk at most 1048576: NARROWER than '..Said'. Prove '..Said' where nothing that the law and all that it calls make is longer than what came in: it says more and counts as full. Else prove '..UptoSaid'. A law counts once. -/
mutual
def uptoBulk {H : Type} : DataW H → Nat
  | .lit (.string bytes) => bytes.length + 1
  | .lit _ => 1
  | .nil => 1
  | .ptr d => uptoBulk d + 1
  | .slice elems spare => uptoBulkAll elems + uptoBulkAll spare + 1
  | .agg parts => uptoBulkAll parts + 1
  | .iface _ d => uptoBulk d + 1
  | .map entries => uptoBulkEntries entries + 1
  | .held _ => 1
def uptoBulkAll {H : Type} : List (DataW H) → Nat
  | [] => 0
  | d :: r => uptoBulk d + uptoBulkAll r
def uptoBulkEntries {H : Type} : List (Lit × DataW H) → Nat
  | [] => 0
  | x :: r => uptoBulkEntry x + uptoBulkEntries r
def uptoBulkEntry {H : Type} : Lit × DataW H → Nat
  | (.string bytes, d) => bytes.length + uptoBulk d + 1
  | (_, d) => uptoBulk d + 1
 end
def uptoSmall : (H : Type) → List (DataW H) → Bool := fun _ ds => decide (uptoBulkAll ds ≤ 1048576)
def OpenSpec.upto (s : _root_.Go.ChangeSpec) : _root_.Go.OpenSpec := { _root_.Go.OpenSpec.ofChange s with cond := some uptoSmall }

/-- 'laws.FnExactLastUndo', WHERE WHAT IT READS IS OF BULK AT MOST 1048576: true; the input reads as it did. -/
def fnExactLastUndoUptoRow : OpenClaim := { program := "ytffamggcjijobaa", sum := "2c994a41806526d6f201c5f945906a8b8429f24d4f3bf53f383a42b671114482", func := "loop.example/g00025/laws.FnExactLastUndo", spec := "fnExactLastUndo", unfollowed := true, recurses := true, apart := false, narrowed := true }
def FnExactLastUndoUptoSaid : Prop := fnExactLastUndoUptoRow.holds Try.pinned (OpenSpec.upto fnExactLastUndoSpec)

/-- 'laws.FnExactLastRedo', WHERE WHAT IT READS IS OF BULK AT MOST 1048576: true; the input reads as it did. -/
def fnExactLastRedoUptoRow : OpenClaim := { program := "ytffamggcjijobaa", sum := "2c994a41806526d6f201c5f945906a8b8429f24d4f3bf53f383a42b671114482", func := "loop.example/g00025/laws.FnExactLastRedo", spec := "fnExactLastRedo", unfollowed := true, recurses := true, apart := false, narrowed := true }
def FnExactLastRedoUptoSaid : Prop := fnExactLastRedoUptoRow.holds Try.pinned (OpenSpec.upto fnExactLastRedoSpec)

/-- 'laws.FnExactStanding', WHERE WHAT IT READS IS OF BULK AT MOST 1048576: true; the input reads as it did. -/
def fnExactStandingUptoRow : OpenClaim := { program := "ytffamggcjijobaa", sum := "2c994a41806526d6f201c5f945906a8b8429f24d4f3bf53f383a42b671114482", func := "loop.example/g00025/laws.FnExactStanding", spec := "fnExactStanding", apart := false, narrowed := true }
def FnExactStandingUptoSaid : Prop := fnExactStandingUptoRow.holds Try.pinned (OpenSpec.upto fnExactStandingSpec)

end Rows
end Go.Proofs.Ytffamggcjijobaa
