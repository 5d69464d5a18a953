/-
  No cell of these rows narrows 'for every input' (looked for: loops, veiled, ifaces, maps, wideKeys, modest, calm, conditions, laid).
  DERIVED. THE GIVEN ROWS OF THIS SEAT. 11 by the template 'for every input the law returns true; each argument reads behind the call as it read before'; 0 by the template 'total and deterministic' (their statements: YtiifamocjcpcoaaTotals.lean).
  GIVEN WITH THE SEED: the statements are not yours to turn. If you find one false, say at which input.
  Laid BY PROGRAM, IN A SANDBOX (cutbox-rows.mjs): the forced cells as the released guide's own fill.sh prints them over the translation 6ddf47a8ff5bfc9c… (all of the seat's roots in one cut). By AI agents, Wed Nov 11 2026. No macro, syntax, notation, axiom, sorry.
-/
import Derived.Test.YtiifamocjcpcoaaChecked
import GoSem.Claim
import GoSem.ClaimJoined
import GoSem.ClaimMapViews
import Derived.JoinedTies
import Derived.KernelRfl
namespace Go.Proofs.Ytiifamocjcpcoaa
/- THE CELL 'sum', in the pinned program and in every row, IS THE sha256 OF THE DUMP (.gsa) THAT YtiifamocjcpcoaaProg.lean LOADS. Nothing in Lean hashes anything: it is a label: what it is worth is what the hold of that sum in a sandbox is worth. -/
noncomputable def Try.pinned : Pinned := { name := "ytiifamocjcpcoaa", sum := "6ddf47a8ff5bfc9c225a216d7565f5693e3770c0e128d820722bccc9cde268eb", checked := Try.checked }
namespace Rows
def none {H : Type} : Left H := { results := [], args := [] }

/-- 'laws.FnExactConstants': WHATEVER THE INPUT: true; the input reads as it did. -/
def fnExactConstantsSpec : ChangeSpec := { name := "fnExactConstants", fn := fun _ => fun
  | [] => { results := [.lit (.bool true)], args := [] }
  | _ => none }
def fnExactConstantsRow : OpenClaim := { program := "ytiifamocjcpcoaa", sum := "6ddf47a8ff5bfc9c225a216d7565f5693e3770c0e128d820722bccc9cde268eb", func := "loop.example/g00025/laws.FnExactConstants", spec := "fnExactConstants", apart := false }
def FnExactConstantsSaid : Prop := fnExactConstantsRow.holds Try.pinned (OpenSpec.ofChange fnExactConstantsSpec)

/-- ITS FALSE NEIGHBOUR: 'it returns false'. Refute it at one input. -/
def fnExactConstantsWrong : ChangeSpec := { name := "fnExactConstants", fn := fun _ => fun
  | [] => { results := [.lit (.bool false)], args := [] }
  | _ => none }
def FnExactConstantsWrongFalsely : Prop := fnExactConstantsRow.holds Try.pinned (OpenSpec.ofChange fnExactConstantsWrong)

/-- 'laws.FnExactGoodRef': WHATEVER THE INPUT: true; the input reads as it did. -/
def fnExactGoodRefSpec : ChangeSpec := { name := "fnExactGoodRef", fn := fun _ => fun
  | [d] => { results := [.lit (.bool true)], args := [d] }
  | _ => none }
def fnExactGoodRefRow : OpenClaim := { program := "ytiifamocjcpcoaa", sum := "6ddf47a8ff5bfc9c225a216d7565f5693e3770c0e128d820722bccc9cde268eb", func := "loop.example/g00025/laws.FnExactGoodRef", spec := "fnExactGoodRef", apart := false }
def FnExactGoodRefSaid : Prop := fnExactGoodRefRow.holds Try.pinned (OpenSpec.ofChange fnExactGoodRefSpec)

/-- ITS FALSE NEIGHBOUR: 'it returns false'. Refute it at one input. -/
def fnExactGoodRefWrong : ChangeSpec := { name := "fnExactGoodRef", fn := fun _ => fun
  | [d] => { results := [.lit (.bool false)], args := [d] }
  | _ => none }
def FnExactGoodRefWrongFalsely : Prop := fnExactGoodRefRow.holds Try.pinned (OpenSpec.ofChange fnExactGoodRefWrong)

/-- 'laws.FnExactGoodDec': WHATEVER THE INPUT: true; the input reads as it did. -/
def fnExactGoodDecSpec : ChangeSpec := { name := "fnExactGoodDec", fn := fun _ => fun
  | [d] => { results := [.lit (.bool true)], args := [d] }
  | _ => none }
def fnExactGoodDecRow : OpenClaim := { program := "ytiifamocjcpcoaa", sum := "6ddf47a8ff5bfc9c225a216d7565f5693e3770c0e128d820722bccc9cde268eb", func := "loop.example/g00025/laws.FnExactGoodDec", spec := "fnExactGoodDec", apart := false }
def FnExactGoodDecSaid : Prop := fnExactGoodDecRow.holds Try.pinned (OpenSpec.ofChange fnExactGoodDecSpec)

/-- ITS FALSE NEIGHBOUR: 'it returns false'. Refute it at one input. -/
def fnExactGoodDecWrong : ChangeSpec := { name := "fnExactGoodDec", fn := fun _ => fun
  | [d] => { results := [.lit (.bool false)], args := [d] }
  | _ => none }
def FnExactGoodDecWrongFalsely : Prop := fnExactGoodDecRow.holds Try.pinned (OpenSpec.ofChange fnExactGoodDecWrong)

/-- 'laws.FnExactGoodArea': WHATEVER THE INPUT: true; the input reads as it did. -/
def fnExactGoodAreaSpec : ChangeSpec := { name := "fnExactGoodArea", fn := fun _ => fun
  | [d] => { results := [.lit (.bool true)], args := [d] }
  | _ => none }
def fnExactGoodAreaRow : OpenClaim := { program := "ytiifamocjcpcoaa", sum := "6ddf47a8ff5bfc9c225a216d7565f5693e3770c0e128d820722bccc9cde268eb", func := "loop.example/g00025/laws.FnExactGoodArea", spec := "fnExactGoodArea", apart := false }
def FnExactGoodAreaSaid : Prop := fnExactGoodAreaRow.holds Try.pinned (OpenSpec.ofChange fnExactGoodAreaSpec)

/-- ITS FALSE NEIGHBOUR: 'it returns false'. Refute it at one input. -/
def fnExactGoodAreaWrong : ChangeSpec := { name := "fnExactGoodArea", fn := fun _ => fun
  | [d] => { results := [.lit (.bool false)], args := [d] }
  | _ => none }
def FnExactGoodAreaWrongFalsely : Prop := fnExactGoodAreaRow.holds Try.pinned (OpenSpec.ofChange fnExactGoodAreaWrong)

/-- 'laws.FnExactColName': WHATEVER THE INPUT: true; the input reads as it did. -/
def fnExactColNameSpec : ChangeSpec := { name := "fnExactColName", fn := fun _ => fun
  | [d] => { results := [.lit (.bool true)], args := [d] }
  | _ => none }
def fnExactColNameRow : OpenClaim := { program := "ytiifamocjcpcoaa", sum := "6ddf47a8ff5bfc9c225a216d7565f5693e3770c0e128d820722bccc9cde268eb", func := "loop.example/g00025/laws.FnExactColName", spec := "fnExactColName", apart := false }
def FnExactColNameSaid : Prop := fnExactColNameRow.holds Try.pinned (OpenSpec.ofChange fnExactColNameSpec)

/-- ITS FALSE NEIGHBOUR: 'it returns false'. Refute it at one input. -/
def fnExactColNameWrong : ChangeSpec := { name := "fnExactColName", fn := fun _ => fun
  | [d] => { results := [.lit (.bool false)], args := [d] }
  | _ => none }
def FnExactColNameWrongFalsely : Prop := fnExactColNameRow.holds Try.pinned (OpenSpec.ofChange fnExactColNameWrong)

/-- 'laws.FnExactLeapYear': WHATEVER THE INPUT: true; the input reads as it did. -/
def fnExactLeapYearSpec : ChangeSpec := { name := "fnExactLeapYear", fn := fun _ => fun
  | [d1, d2] => { results := [.lit (.bool true)], args := [d1, d2] }
  | _ => none }
def fnExactLeapYearRow : OpenClaim := { program := "ytiifamocjcpcoaa", sum := "6ddf47a8ff5bfc9c225a216d7565f5693e3770c0e128d820722bccc9cde268eb", func := "loop.example/g00025/laws.FnExactLeapYear", spec := "fnExactLeapYear", apart := false }
def FnExactLeapYearSaid : Prop := fnExactLeapYearRow.holds Try.pinned (OpenSpec.ofChange fnExactLeapYearSpec)

/-- ITS FALSE NEIGHBOUR: 'it returns false'. Refute it at one input. -/
def fnExactLeapYearWrong : ChangeSpec := { name := "fnExactLeapYear", fn := fun _ => fun
  | [d1, d2] => { results := [.lit (.bool false)], args := [d1, d2] }
  | _ => none }
def FnExactLeapYearWrongFalsely : Prop := fnExactLeapYearRow.holds Try.pinned (OpenSpec.ofChange fnExactLeapYearWrong)

/-- 'laws.FnExactWeekday': WHATEVER THE INPUT: true; the input reads as it did. -/
def fnExactWeekdaySpec : ChangeSpec := { name := "fnExactWeekday", fn := fun _ => fun
  | [d] => { results := [.lit (.bool true)], args := [d] }
  | _ => none }
def fnExactWeekdayRow : OpenClaim := { program := "ytiifamocjcpcoaa", sum := "6ddf47a8ff5bfc9c225a216d7565f5693e3770c0e128d820722bccc9cde268eb", func := "loop.example/g00025/laws.FnExactWeekday", spec := "fnExactWeekday", apart := false }
def FnExactWeekdaySaid : Prop := fnExactWeekdayRow.holds Try.pinned (OpenSpec.ofChange fnExactWeekdaySpec)

/-- ITS FALSE NEIGHBOUR: 'it returns false'. Refute it at one input. -/
def fnExactWeekdayWrong : ChangeSpec := { name := "fnExactWeekday", fn := fun _ => fun
  | [d] => { results := [.lit (.bool false)], args := [d] }
  | _ => none }
def FnExactWeekdayWrongFalsely : Prop := fnExactWeekdayRow.holds Try.pinned (OpenSpec.ofChange fnExactWeekdayWrong)

/-- 'laws.FnExactGoodTurn': WHATEVER THE INPUT: true; the input reads as it did. -/
def fnExactGoodTurnSpec : ChangeSpec := { name := "fnExactGoodTurn", fn := fun _ => fun
  | [d] => { results := [.lit (.bool true)], args := [d] }
  | _ => none }
def fnExactGoodTurnRow : OpenClaim := { program := "ytiifamocjcpcoaa", sum := "6ddf47a8ff5bfc9c225a216d7565f5693e3770c0e128d820722bccc9cde268eb", func := "loop.example/g00025/laws.FnExactGoodTurn", spec := "fnExactGoodTurn", apart := false }
def FnExactGoodTurnSaid : Prop := fnExactGoodTurnRow.holds Try.pinned (OpenSpec.ofChange fnExactGoodTurnSpec)

/-- ITS FALSE NEIGHBOUR: 'it returns false'. Refute it at one input. -/
def fnExactGoodTurnWrong : ChangeSpec := { name := "fnExactGoodTurn", fn := fun _ => fun
  | [d] => { results := [.lit (.bool false)], args := [d] }
  | _ => none }
def FnExactGoodTurnWrongFalsely : Prop := fnExactGoodTurnRow.holds Try.pinned (OpenSpec.ofChange fnExactGoodTurnWrong)

/-- 'laws.FnExactColNumber': WHATEVER THE INPUT: true; the input reads as it did. -/
def fnExactColNumberSpec : ChangeSpec := { name := "fnExactColNumber", fn := fun _ => fun
  | [d] => { results := [.lit (.bool true)], args := [d] }
  | _ => none }
def fnExactColNumberRow : OpenClaim := { program := "ytiifamocjcpcoaa", sum := "6ddf47a8ff5bfc9c225a216d7565f5693e3770c0e128d820722bccc9cde268eb", func := "loop.example/g00025/laws.FnExactColNumber", spec := "fnExactColNumber", apart := false }
def FnExactColNumberSaid : Prop := fnExactColNumberRow.holds Try.pinned (OpenSpec.ofChange fnExactColNumberSpec)

/-- ITS FALSE NEIGHBOUR: 'it returns false'. Refute it at one input. -/
def fnExactColNumberWrong : ChangeSpec := { name := "fnExactColNumber", fn := fun _ => fun
  | [d] => { results := [.lit (.bool false)], args := [d] }
  | _ => none }
def FnExactColNumberWrongFalsely : Prop := fnExactColNumberRow.holds Try.pinned (OpenSpec.ofChange fnExactColNumberWrong)

/-- 'laws.FnExactChecksum': WHATEVER THE INPUT: true; the input reads as it did. -/
def fnExactChecksumSpec : ChangeSpec := { name := "fnExactChecksum", fn := fun _ => fun
  | [d] => { results := [.lit (.bool true)], args := [d] }
  | _ => none }
def fnExactChecksumRow : OpenClaim := { program := "ytiifamocjcpcoaa", sum := "6ddf47a8ff5bfc9c225a216d7565f5693e3770c0e128d820722bccc9cde268eb", func := "loop.example/g00025/laws.FnExactChecksum", spec := "fnExactChecksum", apart := false }
def FnExactChecksumSaid : Prop := fnExactChecksumRow.holds Try.pinned (OpenSpec.ofChange fnExactChecksumSpec)

/-- ITS FALSE NEIGHBOUR: 'it returns false'. Refute it at one input. -/
def fnExactChecksumWrong : ChangeSpec := { name := "fnExactChecksum", fn := fun _ => fun
  | [d] => { results := [.lit (.bool false)], args := [d] }
  | _ => none }
def FnExactChecksumWrongFalsely : Prop := fnExactChecksumRow.holds Try.pinned (OpenSpec.ofChange fnExactChecksumWrong)

/-- 'laws.FnExactBackTurn': WHATEVER THE INPUT: true; the input reads as it did. -/
def fnExactBackTurnSpec : ChangeSpec := { name := "fnExactBackTurn", fn := fun _ => fun
  | [d] => { results := [.lit (.bool true)], args := [d] }
  | _ => none }
def fnExactBackTurnRow : OpenClaim := { program := "ytiifamocjcpcoaa", sum := "6ddf47a8ff5bfc9c225a216d7565f5693e3770c0e128d820722bccc9cde268eb", func := "loop.example/g00025/laws.FnExactBackTurn", spec := "fnExactBackTurn", apart := false }
def FnExactBackTurnSaid : Prop := fnExactBackTurnRow.holds Try.pinned (OpenSpec.ofChange fnExactBackTurnSpec)

/-- ITS FALSE NEIGHBOUR: 'it returns false'. Refute it at one input. -/
def fnExactBackTurnWrong : ChangeSpec := { name := "fnExactBackTurn", fn := fun _ => fun
  | [d] => { results := [.lit (.bool false)], args := [d] }
  | _ => none }
def FnExactBackTurnWrongFalsely : Prop := fnExactBackTurnRow.holds Try.pinned (OpenSpec.ofChange fnExactBackTurnWrong)

/- THE SECOND FORM. 'bulk': how many values and letters a reading holds, each counted each time it is reached (what is shared counts as often as it is met; a slice's spare places count too). A statement '..UptoSaid' is the law's where the arguments, and the package variables that the reading takes, are together of bulk at most 1048576: NARROWER than '..Said'. Prove '..Said' where nothing that the law and all that it calls make is longer than what came in: it says more and counts as full. Else prove '..UptoSaid'. A law counts once. -/
mutual
def uptoBulk {H : Type} : DataW H → Nat
  | .lit (.string bytes) => bytes.length + 1
  | .lit _ => 1
  | .nil => 1
  | .ptr d => uptoBulk d + 1
  | .slice elems spare => uptoBulkAll elems + uptoBulkAll spare + 1
  | .agg parts => uptoBulkAll parts + 1
  | .iface _ d => uptoBulk d + 1
  | .map entries => uptoBulkEntries entries + 1
  | .held _ => 1
def uptoBulkAll {H : Type} : List (DataW H) → Nat
  | [] => 0
  | d :: r => uptoBulk d + uptoBulkAll r
def uptoBulkEntries {H : Type} : List (Lit × DataW H) → Nat
  | [] => 0
  | x :: r => uptoBulkEntry x + uptoBulkEntries r
def uptoBulkEntry {H : Type} : Lit × DataW H → Nat
  | (.string bytes, d) => bytes.length + uptoBulk d + 1
  | (_, d) => uptoBulk d + 1
 end
def uptoSmall : (H : Type) → List (DataW H) → Bool := fun _ ds => decide (uptoBulkAll ds ≤ 1048576)
def OpenSpec.upto (s : _root_.Go.ChangeSpec) : _root_.Go.OpenSpec := { _root_.Go.OpenSpec.ofChange s with cond := some uptoSmall }

/-- 'laws.FnExactConstants', WHERE WHAT IT READS IS OF BULK AT MOST 1048576: true; the input reads as it did. -/
def fnExactConstantsUptoRow : OpenClaim := { program := "ytiifamocjcpcoaa", sum := "6ddf47a8ff5bfc9c225a216d7565f5693e3770c0e128d820722bccc9cde268eb", func := "loop.example/g00025/laws.FnExactConstants", spec := "fnExactConstants", apart := false, narrowed := true }
def FnExactConstantsUptoSaid : Prop := fnExactConstantsUptoRow.holds Try.pinned (OpenSpec.upto fnExactConstantsSpec)

/-- 'laws.FnExactGoodRef', WHERE WHAT IT READS IS OF BULK AT MOST 1048576: true; the input reads as it did. -/
def fnExactGoodRefUptoRow : OpenClaim := { program := "ytiifamocjcpcoaa", sum := "6ddf47a8ff5bfc9c225a216d7565f5693e3770c0e128d820722bccc9cde268eb", func := "loop.example/g00025/laws.FnExactGoodRef", spec := "fnExactGoodRef", apart := false, narrowed := true }
def FnExactGoodRefUptoSaid : Prop := fnExactGoodRefUptoRow.holds Try.pinned (OpenSpec.upto fnExactGoodRefSpec)

/-- 'laws.FnExactGoodDec', WHERE WHAT IT READS IS OF BULK AT MOST 1048576: true; the input reads as it did. -/
def fnExactGoodDecUptoRow : OpenClaim := { program := "ytiifamocjcpcoaa", sum := "6ddf47a8ff5bfc9c225a216d7565f5693e3770c0e128d820722bccc9cde268eb", func := "loop.example/g00025/laws.FnExactGoodDec", spec := "fnExactGoodDec", apart := false, narrowed := true }
def FnExactGoodDecUptoSaid : Prop := fnExactGoodDecUptoRow.holds Try.pinned (OpenSpec.upto fnExactGoodDecSpec)

/-- 'laws.FnExactGoodArea', WHERE WHAT IT READS IS OF BULK AT MOST 1048576: true; the input reads as it did. -/
def fnExactGoodAreaUptoRow : OpenClaim := { program := "ytiifamocjcpcoaa", sum := "6ddf47a8ff5bfc9c225a216d7565f5693e3770c0e128d820722bccc9cde268eb", func := "loop.example/g00025/laws.FnExactGoodArea", spec := "fnExactGoodArea", apart := false, narrowed := true }
def FnExactGoodAreaUptoSaid : Prop := fnExactGoodAreaUptoRow.holds Try.pinned (OpenSpec.upto fnExactGoodAreaSpec)

/-- 'laws.FnExactColName', WHERE WHAT IT READS IS OF BULK AT MOST 1048576: true; the input reads as it did. -/
def fnExactColNameUptoRow : OpenClaim := { program := "ytiifamocjcpcoaa", sum := "6ddf47a8ff5bfc9c225a216d7565f5693e3770c0e128d820722bccc9cde268eb", func := "loop.example/g00025/laws.FnExactColName", spec := "fnExactColName", apart := false, narrowed := true }
def FnExactColNameUptoSaid : Prop := fnExactColNameUptoRow.holds Try.pinned (OpenSpec.upto fnExactColNameSpec)

/-- 'laws.FnExactLeapYear', WHERE WHAT IT READS IS OF BULK AT MOST 1048576: true; the input reads as it did. -/
def fnExactLeapYearUptoRow : OpenClaim := { program := "ytiifamocjcpcoaa", sum := "6ddf47a8ff5bfc9c225a216d7565f5693e3770c0e128d820722bccc9cde268eb", func := "loop.example/g00025/laws.FnExactLeapYear", spec := "fnExactLeapYear", apart := false, narrowed := true }
def FnExactLeapYearUptoSaid : Prop := fnExactLeapYearUptoRow.holds Try.pinned (OpenSpec.upto fnExactLeapYearSpec)

/-- 'laws.FnExactWeekday', WHERE WHAT IT READS IS OF BULK AT MOST 1048576: true; the input reads as it did. -/
def fnExactWeekdayUptoRow : OpenClaim := { program := "ytiifamocjcpcoaa", sum := "6ddf47a8ff5bfc9c225a216d7565f5693e3770c0e128d820722bccc9cde268eb", func := "loop.example/g00025/laws.FnExactWeekday", spec := "fnExactWeekday", apart := false, narrowed := true }
def FnExactWeekdayUptoSaid : Prop := fnExactWeekdayUptoRow.holds Try.pinned (OpenSpec.upto fnExactWeekdaySpec)

/-- 'laws.FnExactGoodTurn', WHERE WHAT IT READS IS OF BULK AT MOST 1048576: true; the input reads as it did. -/
def fnExactGoodTurnUptoRow : OpenClaim := { program := "ytiifamocjcpcoaa", sum := "6ddf47a8ff5bfc9c225a216d7565f5693e3770c0e128d820722bccc9cde268eb", func := "loop.example/g00025/laws.FnExactGoodTurn", spec := "fnExactGoodTurn", apart := false, narrowed := true }
def FnExactGoodTurnUptoSaid : Prop := fnExactGoodTurnUptoRow.holds Try.pinned (OpenSpec.upto fnExactGoodTurnSpec)

/-- 'laws.FnExactColNumber', WHERE WHAT IT READS IS OF BULK AT MOST 1048576: true; the input reads as it did. -/
def fnExactColNumberUptoRow : OpenClaim := { program := "ytiifamocjcpcoaa", sum := "6ddf47a8ff5bfc9c225a216d7565f5693e3770c0e128d820722bccc9cde268eb", func := "loop.example/g00025/laws.FnExactColNumber", spec := "fnExactColNumber", apart := false, narrowed := true }
def FnExactColNumberUptoSaid : Prop := fnExactColNumberUptoRow.holds Try.pinned (OpenSpec.upto fnExactColNumberSpec)

/-- 'laws.FnExactChecksum', WHERE WHAT IT READS IS OF BULK AT MOST 1048576: true; the input reads as it did. -/
def fnExactChecksumUptoRow : OpenClaim := { program := "ytiifamocjcpcoaa", sum := "6ddf47a8ff5bfc9c225a216d7565f5693e3770c0e128d820722bccc9cde268eb", func := "loop.example/g00025/laws.FnExactChecksum", spec := "fnExactChecksum", apart := false, narrowed := true }
def FnExactChecksumUptoSaid : Prop := fnExactChecksumUptoRow.holds Try.pinned (OpenSpec.upto fnExactChecksumSpec)

/-- 'laws.FnExactBackTurn', WHERE WHAT IT READS IS OF BULK AT MOST 1048576: true; the input reads as it did. -/
def fnExactBackTurnUptoRow : OpenClaim := { program := "ytiifamocjcpcoaa", sum := "6ddf47a8ff5bfc9c225a216d7565f5693e3770c0e128d820722bccc9cde268eb", func := "loop.example/g00025/laws.FnExactBackTurn", spec := "fnExactBackTurn", apart := false, narrowed := true }
def FnExactBackTurnUptoSaid : Prop := fnExactBackTurnUptoRow.holds Try.pinned (OpenSpec.upto fnExactBackTurnSpec)

end Rows
end Go.Proofs.Ytiifamocjcpcoaa
