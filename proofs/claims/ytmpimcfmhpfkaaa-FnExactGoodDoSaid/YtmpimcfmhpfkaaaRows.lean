/-
  No cell of these rows narrows 'for every input' (looked for: loops, veiled, ifaces, maps, wideKeys, modest, calm, conditions, laid).
  DERIVED. THE GIVEN ROWS OF THIS SEAT. 9 by the template 'for every input the law returns true; each argument reads behind the call as it read before'; 0 by the template 'total and deterministic' (their statements: YtmpimcfmhpfkaaaTotals.lean).
  GIVEN WITH THE SEED: the statements are not yours to turn. If you find one false, say at which input.
  Laid BY PROGRAM, IN A SANDBOX (cutbox-rows.mjs): the forced cells as the released guide's own fill.sh prints them over the translation 25d5e9dd35b83aa3… (all of the seat's roots in one cut). By AI agents, Wed Nov 11 2026. No macro, syntax, notation, axiom, sorry.
-/
import Derived.Test.YtmpimcfmhpfkaaaChecked
import GoSem.Claim
import GoSem.ClaimJoined
import GoSem.ClaimMapViews
import Derived.JoinedTies
import Derived.KernelRfl
namespace Go.Proofs.Ytmpimcfmhpfkaaa
/- THE CELL 'sum', in the pinned program and in every row, IS THE sha256 OF THE DUMP (.gsa) THAT YtmpimcfmhpfkaaaProg.lean LOADS. Nothing in Lean hashes anything: it is a label: what it is worth is what the hold of that sum in a sandbox is worth. -/
noncomputable def Try.pinned : Pinned := { name := "ytmpimcfmhpfkaaa", sum := "25d5e9dd35b83aa3641a75a679332d73c1ced4766f7ae4aee34b2643d617e546", checked := Try.checked }
namespace Rows
def none {H : Type} : Left H := { results := [], args := [] }

/-- 'laws.FnExactNormal': WHATEVER THE INPUT: true; the input reads as it did. -/
def fnExactNormalSpec : ChangeSpec := { name := "fnExactNormal", fn := fun _ => fun
  | [d] => { results := [.lit (.bool true)], args := [d] }
  | _ => none }
def fnExactNormalRow : OpenClaim := { program := "ytmpimcfmhpfkaaa", sum := "25d5e9dd35b83aa3641a75a679332d73c1ced4766f7ae4aee34b2643d617e546", func := "loop.example/g00025/laws.FnExactNormal", spec := "fnExactNormal", apart := false }
def FnExactNormalSaid : Prop := fnExactNormalRow.holds Try.pinned (OpenSpec.ofChange fnExactNormalSpec)

/-- ITS FALSE NEIGHBOUR: 'it returns false'. Refute it at one input. -/
def fnExactNormalWrong : ChangeSpec := { name := "fnExactNormal", fn := fun _ => fun
  | [d] => { results := [.lit (.bool false)], args := [d] }
  | _ => none }
def FnExactNormalWrongFalsely : Prop := fnExactNormalRow.holds Try.pinned (OpenSpec.ofChange fnExactNormalWrong)

/-- 'laws.FnExactWorkdays': WHATEVER THE INPUT: true; the input reads as it did. -/
def fnExactWorkdaysSpec : ChangeSpec := { name := "fnExactWorkdays", fn := fun _ => fun
  | [d1, d2, d3] => { results := [.lit (.bool true)], args := [d1, d2, d3] }
  | _ => none }
def fnExactWorkdaysRow : OpenClaim := { program := "ytmpimcfmhpfkaaa", sum := "25d5e9dd35b83aa3641a75a679332d73c1ced4766f7ae4aee34b2643d617e546", func := "loop.example/g00025/laws.FnExactWorkdays", spec := "fnExactWorkdays", recurses := true, apart := false }
def FnExactWorkdaysSaid : Prop := fnExactWorkdaysRow.holds Try.pinned (OpenSpec.ofChange fnExactWorkdaysSpec)

/-- ITS FALSE NEIGHBOUR: 'it returns false'. Refute it at one input. -/
def fnExactWorkdaysWrong : ChangeSpec := { name := "fnExactWorkdays", fn := fun _ => fun
  | [d1, d2, d3] => { results := [.lit (.bool false)], args := [d1, d2, d3] }
  | _ => none }
def FnExactWorkdaysWrongFalsely : Prop := fnExactWorkdaysRow.holds Try.pinned (OpenSpec.ofChange fnExactWorkdaysWrong)

/-- 'laws.FnExactHull': WHATEVER THE INPUT: true; the input reads as it did. -/
def fnExactHullSpec : ChangeSpec := { name := "fnExactHull", fn := fun _ => fun
  | [d1, d2] => { results := [.lit (.bool true)], args := [d1, d2] }
  | _ => none }
def fnExactHullRow : OpenClaim := { program := "ytmpimcfmhpfkaaa", sum := "25d5e9dd35b83aa3641a75a679332d73c1ced4766f7ae4aee34b2643d617e546", func := "loop.example/g00025/laws.FnExactHull", spec := "fnExactHull", apart := false }
def FnExactHullSaid : Prop := fnExactHullRow.holds Try.pinned (OpenSpec.ofChange fnExactHullSpec)

/-- ITS FALSE NEIGHBOUR: 'it returns false'. Refute it at one input. -/
def fnExactHullWrong : ChangeSpec := { name := "fnExactHull", fn := fun _ => fun
  | [d1, d2] => { results := [.lit (.bool false)], args := [d1, d2] }
  | _ => none }
def FnExactHullWrongFalsely : Prop := fnExactHullRow.holds Try.pinned (OpenSpec.ofChange fnExactHullWrong)

/-- 'laws.FnExactMeet': WHATEVER THE INPUT: true; the input reads as it did. -/
def fnExactMeetSpec : ChangeSpec := { name := "fnExactMeet", fn := fun _ => fun
  | [d1, d2] => { results := [.lit (.bool true)], args := [d1, d2] }
  | _ => none }
def fnExactMeetRow : OpenClaim := { program := "ytmpimcfmhpfkaaa", sum := "25d5e9dd35b83aa3641a75a679332d73c1ced4766f7ae4aee34b2643d617e546", func := "loop.example/g00025/laws.FnExactMeet", spec := "fnExactMeet", apart := false }
def FnExactMeetSaid : Prop := fnExactMeetRow.holds Try.pinned (OpenSpec.ofChange fnExactMeetSpec)

/-- ITS FALSE NEIGHBOUR: 'it returns false'. Refute it at one input. -/
def fnExactMeetWrong : ChangeSpec := { name := "fnExactMeet", fn := fun _ => fun
  | [d1, d2] => { results := [.lit (.bool false)], args := [d1, d2] }
  | _ => none }
def FnExactMeetWrongFalsely : Prop := fnExactMeetRow.holds Try.pinned (OpenSpec.ofChange fnExactMeetWrong)

/-- 'laws.FnExactGoodDo': WHATEVER THE INPUT: true; the input reads as it did. -/
def fnExactGoodDoSpec : ChangeSpec := { name := "fnExactGoodDo", fn := fun _ => fun
  | [d] => { results := [.lit (.bool true)], args := [d] }
  | _ => none }
def fnExactGoodDoRow : OpenClaim := { program := "ytmpimcfmhpfkaaa", sum := "25d5e9dd35b83aa3641a75a679332d73c1ced4766f7ae4aee34b2643d617e546", func := "loop.example/g00025/laws.FnExactGoodDo", spec := "fnExactGoodDo", apart := false }
def FnExactGoodDoSaid : Prop := fnExactGoodDoRow.holds Try.pinned (OpenSpec.ofChange fnExactGoodDoSpec)

/-- ITS FALSE NEIGHBOUR: 'it returns false'. Refute it at one input. -/
def fnExactGoodDoWrong : ChangeSpec := { name := "fnExactGoodDo", fn := fun _ => fun
  | [d] => { results := [.lit (.bool false)], args := [d] }
  | _ => none }
def FnExactGoodDoWrongFalsely : Prop := fnExactGoodDoRow.holds Try.pinned (OpenSpec.ofChange fnExactGoodDoWrong)

/-- 'laws.FnExactTurnRef': WHATEVER THE INPUT: true; the input reads as it did. -/
def fnExactTurnRefSpec : ChangeSpec := { name := "fnExactTurnRef", fn := fun _ => fun
  | [d1, d2] => { results := [.lit (.bool true)], args := [d1, d2] }
  | _ => none }
def fnExactTurnRefRow : OpenClaim := { program := "ytmpimcfmhpfkaaa", sum := "25d5e9dd35b83aa3641a75a679332d73c1ced4766f7ae4aee34b2643d617e546", func := "loop.example/g00025/laws.FnExactTurnRef", spec := "fnExactTurnRef", apart := false }
def FnExactTurnRefSaid : Prop := fnExactTurnRefRow.holds Try.pinned (OpenSpec.ofChange fnExactTurnRefSpec)

/-- ITS FALSE NEIGHBOUR: 'it returns false'. Refute it at one input. -/
def fnExactTurnRefWrong : ChangeSpec := { name := "fnExactTurnRef", fn := fun _ => fun
  | [d1, d2] => { results := [.lit (.bool false)], args := [d1, d2] }
  | _ => none }
def FnExactTurnRefWrongFalsely : Prop := fnExactTurnRefRow.holds Try.pinned (OpenSpec.ofChange fnExactTurnRefWrong)

/-- 'laws.FnExactValueAt': WHATEVER THE INPUT: true; the input reads as it did. -/
def fnExactValueAtSpec : ChangeSpec := { name := "fnExactValueAt", fn := fun _ => fun
  | [d1, d2, d3] => { results := [.lit (.bool true)], args := [d1, d2, d3] }
  | _ => none }
def fnExactValueAtRow : OpenClaim := { program := "ytmpimcfmhpfkaaa", sum := "25d5e9dd35b83aa3641a75a679332d73c1ced4766f7ae4aee34b2643d617e546", func := "loop.example/g00025/laws.FnExactValueAt", spec := "fnExactValueAt", apart := false }
def FnExactValueAtSaid : Prop := fnExactValueAtRow.holds Try.pinned (OpenSpec.ofChange fnExactValueAtSpec)

/-- ITS FALSE NEIGHBOUR: 'it returns false'. Refute it at one input. -/
def fnExactValueAtWrong : ChangeSpec := { name := "fnExactValueAt", fn := fun _ => fun
  | [d1, d2, d3] => { results := [.lit (.bool false)], args := [d1, d2, d3] }
  | _ => none }
def FnExactValueAtWrongFalsely : Prop := fnExactValueAtRow.holds Try.pinned (OpenSpec.ofChange fnExactValueAtWrong)

/-- 'laws.FnWorkdays': WHATEVER THE INPUT: true; the input reads as it did. -/
def fnWorkdaysSpec : ChangeSpec := { name := "fnWorkdays", fn := fun _ => fun
  | [d1, d2] => { results := [.lit (.bool true)], args := [d1, d2] }
  | _ => none }
def fnWorkdaysRow : OpenClaim := { program := "ytmpimcfmhpfkaaa", sum := "25d5e9dd35b83aa3641a75a679332d73c1ced4766f7ae4aee34b2643d617e546", func := "loop.example/g00025/laws.FnWorkdays", spec := "fnWorkdays", recurses := true, apart := false }
def FnWorkdaysSaid : Prop := fnWorkdaysRow.holds Try.pinned (OpenSpec.ofChange fnWorkdaysSpec)

/-- ITS FALSE NEIGHBOUR: 'it returns false'. Refute it at one input. -/
def fnWorkdaysWrong : ChangeSpec := { name := "fnWorkdays", fn := fun _ => fun
  | [d1, d2] => { results := [.lit (.bool false)], args := [d1, d2] }
  | _ => none }
def FnWorkdaysWrongFalsely : Prop := fnWorkdaysRow.holds Try.pinned (OpenSpec.ofChange fnWorkdaysWrong)

/-- 'laws.FnExactMoveRef': WHATEVER THE INPUT: true; the input reads as it did. -/
def fnExactMoveRefSpec : ChangeSpec := { name := "fnExactMoveRef", fn := fun _ => fun
  | [d1, d2] => { results := [.lit (.bool true)], args := [d1, d2] }
  | _ => none }
def fnExactMoveRefRow : OpenClaim := { program := "ytmpimcfmhpfkaaa", sum := "25d5e9dd35b83aa3641a75a679332d73c1ced4766f7ae4aee34b2643d617e546", func := "loop.example/g00025/laws.FnExactMoveRef", spec := "fnExactMoveRef", apart := false }
def FnExactMoveRefSaid : Prop := fnExactMoveRefRow.holds Try.pinned (OpenSpec.ofChange fnExactMoveRefSpec)

/-- ITS FALSE NEIGHBOUR: 'it returns false'. Refute it at one input. -/
def fnExactMoveRefWrong : ChangeSpec := { name := "fnExactMoveRef", fn := fun _ => fun
  | [d1, d2] => { results := [.lit (.bool false)], args := [d1, d2] }
  | _ => none }
def FnExactMoveRefWrongFalsely : Prop := fnExactMoveRefRow.holds Try.pinned (OpenSpec.ofChange fnExactMoveRefWrong)

/- THE SECOND FORM. 'bulk': how many values and letters a reading holds, each counted each time it is reached (what is shared counts as often as it is met; a slice's spare places count too). A statement '..UptoSaid' is the law's where the arguments, and the package variables that the reading takes, are together of bulk at most 1048576: NARROWER than '..Said'. Prove '..Said' where nothing that the law and all that it calls make is longer than what came in: it says more and counts as full. Else prove '..UptoSaid'. A law counts once. -/
mutual
def uptoBulk {H : Type} : DataW H → Nat
  | .lit (.string bytes) => bytes.length + 1
  | .lit _ => 1
  | .nil => 1
  | .ptr d => uptoBulk d + 1
  | .slice elems spare => uptoBulkAll elems + uptoBulkAll spare + 1
  | .agg parts => uptoBulkAll parts + 1
  | .iface _ d => uptoBulk d + 1
  | .map entries => uptoBulkEntries entries + 1
  | .held _ => 1
def uptoBulkAll {H : Type} : List (DataW H) → Nat
  | [] => 0
  | d :: r => uptoBulk d + uptoBulkAll r
def uptoBulkEntries {H : Type} : List (Lit × DataW H) → Nat
  | [] => 0
  | x :: r => uptoBulkEntry x + uptoBulkEntries r
def uptoBulkEntry {H : Type} : Lit × DataW H → Nat
  | (.string bytes, d) => bytes.length + uptoBulk d + 1
  | (_, d) => uptoBulk d + 1
 end
def uptoSmall : (H : Type) → List (DataW H) → Bool := fun _ ds => decide (uptoBulkAll ds ≤ 1048576)
def OpenSpec.upto (s : _root_.Go.ChangeSpec) : _root_.Go.OpenSpec := { _root_.Go.OpenSpec.ofChange s with cond := some uptoSmall }

/-- 'laws.FnExactNormal', WHERE WHAT IT READS IS OF BULK AT MOST 1048576: true; the input reads as it did. -/
def fnExactNormalUptoRow : OpenClaim := { program := "ytmpimcfmhpfkaaa", sum := "25d5e9dd35b83aa3641a75a679332d73c1ced4766f7ae4aee34b2643d617e546", func := "loop.example/g00025/laws.FnExactNormal", spec := "fnExactNormal", apart := false, narrowed := true }
def FnExactNormalUptoSaid : Prop := fnExactNormalUptoRow.holds Try.pinned (OpenSpec.upto fnExactNormalSpec)

/-- 'laws.FnExactWorkdays', WHERE WHAT IT READS IS OF BULK AT MOST 1048576: true; the input reads as it did. -/
def fnExactWorkdaysUptoRow : OpenClaim := { program := "ytmpimcfmhpfkaaa", sum := "25d5e9dd35b83aa3641a75a679332d73c1ced4766f7ae4aee34b2643d617e546", func := "loop.example/g00025/laws.FnExactWorkdays", spec := "fnExactWorkdays", recurses := true, apart := false, narrowed := true }
def FnExactWorkdaysUptoSaid : Prop := fnExactWorkdaysUptoRow.holds Try.pinned (OpenSpec.upto fnExactWorkdaysSpec)

/-- 'laws.FnExactHull', WHERE WHAT IT READS IS OF BULK AT MOST 1048576: true; the input reads as it did. -/
def fnExactHullUptoRow : OpenClaim := { program := "ytmpimcfmhpfkaaa", sum := "25d5e9dd35b83aa3641a75a679332d73c1ced4766f7ae4aee34b2643d617e546", func := "loop.example/g00025/laws.FnExactHull", spec := "fnExactHull", apart := false, narrowed := true }
def FnExactHullUptoSaid : Prop := fnExactHullUptoRow.holds Try.pinned (OpenSpec.upto fnExactHullSpec)

/-- 'laws.FnExactMeet', WHERE WHAT IT READS IS OF BULK AT MOST 1048576: true; the input reads as it did. -/
def fnExactMeetUptoRow : OpenClaim := { program := "ytmpimcfmhpfkaaa", sum := "25d5e9dd35b83aa3641a75a679332d73c1ced4766f7ae4aee34b2643d617e546", func := "loop.example/g00025/laws.FnExactMeet", spec := "fnExactMeet", apart := false, narrowed := true }
def FnExactMeetUptoSaid : Prop := fnExactMeetUptoRow.holds Try.pinned (OpenSpec.upto fnExactMeetSpec)

/-- 'laws.FnExactGoodDo', WHERE WHAT IT READS IS OF BULK AT MOST 1048576: true; the input reads as it did. -/
def fnExactGoodDoUptoRow : OpenClaim := { program := "ytmpimcfmhpfkaaa", sum := "25d5e9dd35b83aa3641a75a679332d73c1ced4766f7ae4aee34b2643d617e546", func := "loop.example/g00025/laws.FnExactGoodDo", spec := "fnExactGoodDo", apart := false, narrowed := true }
def FnExactGoodDoUptoSaid : Prop := fnExactGoodDoUptoRow.holds Try.pinned (OpenSpec.upto fnExactGoodDoSpec)

/-- 'laws.FnExactTurnRef', WHERE WHAT IT READS IS OF BULK AT MOST 1048576: true; the input reads as it did. -/
def fnExactTurnRefUptoRow : OpenClaim := { program := "ytmpimcfmhpfkaaa", sum := "25d5e9dd35b83aa3641a75a679332d73c1ced4766f7ae4aee34b2643d617e546", func := "loop.example/g00025/laws.FnExactTurnRef", spec := "fnExactTurnRef", apart := false, narrowed := true }
def FnExactTurnRefUptoSaid : Prop := fnExactTurnRefUptoRow.holds Try.pinned (OpenSpec.upto fnExactTurnRefSpec)

/-- 'laws.FnExactValueAt', WHERE WHAT IT READS IS OF BULK AT MOST 1048576: true; the input reads as it did. -/
def fnExactValueAtUptoRow : OpenClaim := { program := "ytmpimcfmhpfkaaa", sum := "25d5e9dd35b83aa3641a75a679332d73c1ced4766f7ae4aee34b2643d617e546", func := "loop.example/g00025/laws.FnExactValueAt", spec := "fnExactValueAt", apart := false, narrowed := true }
def FnExactValueAtUptoSaid : Prop := fnExactValueAtUptoRow.holds Try.pinned (OpenSpec.upto fnExactValueAtSpec)

/-- 'laws.FnWorkdays', WHERE WHAT IT READS IS OF BULK AT MOST 1048576: true; the input reads as it did. -/
def fnWorkdaysUptoRow : OpenClaim := { program := "ytmpimcfmhpfkaaa", sum := "25d5e9dd35b83aa3641a75a679332d73c1ced4766f7ae4aee34b2643d617e546", func := "loop.example/g00025/laws.FnWorkdays", spec := "fnWorkdays", recurses := true, apart := false, narrowed := true }
def FnWorkdaysUptoSaid : Prop := fnWorkdaysUptoRow.holds Try.pinned (OpenSpec.upto fnWorkdaysSpec)

/-- 'laws.FnExactMoveRef', WHERE WHAT IT READS IS OF BULK AT MOST 1048576: true; the input reads as it did. -/
def fnExactMoveRefUptoRow : OpenClaim := { program := "ytmpimcfmhpfkaaa", sum := "25d5e9dd35b83aa3641a75a679332d73c1ced4766f7ae4aee34b2643d617e546", func := "loop.example/g00025/laws.FnExactMoveRef", spec := "fnExactMoveRef", apart := false, narrowed := true }
def FnExactMoveRefUptoSaid : Prop := fnExactMoveRefUptoRow.holds Try.pinned (OpenSpec.upto fnExactMoveRefSpec)

end Rows
end Go.Proofs.Ytmpimcfmhpfkaaa
