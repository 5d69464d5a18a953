/- Functions of the program as Lean functions, and proofs that the Go code comes to their answers: for the law FnExactTurnRef; made out of the print by a program of mine (compact.py). No conditions but each theorem's own. -/
import Derived.Test.YtaclplimbnihkaaMFnExactTurnRefa0
import Derived.Test.YtaclplimbnihkaaMFnExactTurnRefa1
import Derived.Test.YtaclplimbnihkaaMFnExactTurnRefa2
import Derived.Test.YtaclplimbnihkaaMFnExactTurnRefa5
import Derived.Test.YtaclplimbnihkaaMFnExactTurnRefa6
import Derived.Test.YtaclplimbnihkaaMFnExactTurnRefa7
import Derived.Test.YtaclplimbnihkaaMFnExactTurnRefa8
namespace Go.Proofs.Ytaclplimbnihkaa.PFnExactTurnRef
open Go.RowKit Go.Proofs.YtaclplimbnihkaaW.PrintWords Go.Proofs.YtaclplimbnihkaaW.PrintLast Go.Proofs.YtaclplimbnihkaaW.PrintMore
attribute [local go_sem] max2_int min2_int max_two min_two max_three min_three max_four min_four   -- for this text's walks alone
set_option linter.unusedVariables false
set_option linter.unusedSimpArgs false

set_option maxHeartbeats 8000000 in
set_option maxRecDepth 100000 in
theorem laws_FnExactTurnRef.calls (k : Nat) (a0_0 : Int) (a0_1 : Int) (a0_2 : Int) (a0_3 : Bool) (a1_0 : Int) (a1_1 : Int) (a1_2 : Bool) (a1_3 : Bool) (r : Bool) (w : World) (h : laws_FnExactTurnRef.f k a0_0 a0_1 a0_2 a0_3 a1_0 a1_1 a1_2 a1_3 = some r) (hr : r = true) :
    Calls Try.prog 6 #[.agg #[.int .i64 a0_0, .int .i64 a0_1, .int .i64 a0_2, .bool a0_3], .agg #[.int .i64 a1_0, .int .i64 a1_1, .bool a1_2, .bool a1_3]] w fun e w' => e = .returned (.bool r) ∧ Below w.heap.size w w' := by
  have H : ((laws_toTurn.f a0_0 a0_1 a0_2 a0_3).bind fun bt151 => ((laws_toRef.f a1_0 a1_1 a1_2 a1_3).bind fun bt155 => ((spec_TurnRef.f k bt151.1 bt151.2.1 bt151.2.2.1 bt151.2.2.2 bt155.1 bt155.2.1 bt155.2.2.1 bt155.2.2.2).bind fun bt159 => ((laws_toTurn.f a0_0 a0_1 a0_2 a0_3).bind fun bt165 => ((laws_toRef.f a1_0 a1_1 a1_2 a1_3).bind fun bt169 => ((impl_TurnRef.f k bt165.1 bt165.2.1 bt165.2.2.1 bt165.2.2.2 bt169.1 bt169.2.1 bt169.2.2.1 bt169.2.2.2).bind fun bt173 => ((laws_eqRef.f bt173.1 bt173.2.1 bt173.2.2.1 bt173.2.2.2.1 bt159.1 bt159.2.1 bt159.2.2.1 bt159.2.2.2.1).bind fun t179 => (if t179 = true then (if (bt173.2.2.2.2 != bt159.2.2.2.2) = true then (some false) else (some true)) else (some false))))))))) = some r := h
  replace H := Option.bind_eq_some_iff.mp H
  obtain ⟨⟨t151, t152, t153, t154⟩, A30, H⟩ := H
  replace H : ((laws_toRef.f a1_0 a1_1 a1_2 a1_3).bind fun bt155 => ((spec_TurnRef.f k t151 t152 t153 t154 bt155.1 bt155.2.1 bt155.2.2.1 bt155.2.2.2).bind fun bt159 => ((laws_toTurn.f a0_0 a0_1 a0_2 a0_3).bind fun bt165 => ((laws_toRef.f a1_0 a1_1 a1_2 a1_3).bind fun bt169 => ((impl_TurnRef.f k bt165.1 bt165.2.1 bt165.2.2.1 bt165.2.2.2 bt169.1 bt169.2.1 bt169.2.2.1 bt169.2.2.2).bind fun bt173 => ((laws_eqRef.f bt173.1 bt173.2.1 bt173.2.2.1 bt173.2.2.2.1 bt159.1 bt159.2.1 bt159.2.2.1 bt159.2.2.2.1).bind fun t179 => (if t179 = true then (if (bt173.2.2.2.2 != bt159.2.2.2.2) = true then (some false) else (some true)) else (some false)))))))) = some r := H
  have A3 := Aside0.mk A30
  clear A30
  replace H := Option.bind_eq_some_iff.mp H
  obtain ⟨⟨t155, t156, t157, t158⟩, A40, H⟩ := H
  replace H : ((spec_TurnRef.f k t151 t152 t153 t154 t155 t156 t157 t158).bind fun bt159 => ((laws_toTurn.f a0_0 a0_1 a0_2 a0_3).bind fun bt165 => ((laws_toRef.f a1_0 a1_1 a1_2 a1_3).bind fun bt169 => ((impl_TurnRef.f k bt165.1 bt165.2.1 bt165.2.2.1 bt165.2.2.2 bt169.1 bt169.2.1 bt169.2.2.1 bt169.2.2.2).bind fun bt173 => ((laws_eqRef.f bt173.1 bt173.2.1 bt173.2.2.1 bt173.2.2.2.1 bt159.1 bt159.2.1 bt159.2.2.1 bt159.2.2.2.1).bind fun t179 => (if t179 = true then (if (bt173.2.2.2.2 != bt159.2.2.2.2) = true then (some false) else (some true)) else (some false))))))) = some r := H
  have A4 := Aside0.mk A40
  clear A40
  replace H := Option.bind_eq_some_iff.mp H
  obtain ⟨⟨t159, t160, t161, t162, t163⟩, A50, H⟩ := H
  replace H : ((laws_toTurn.f a0_0 a0_1 a0_2 a0_3).bind fun bt165 => ((laws_toRef.f a1_0 a1_1 a1_2 a1_3).bind fun bt169 => ((impl_TurnRef.f k bt165.1 bt165.2.1 bt165.2.2.1 bt165.2.2.2 bt169.1 bt169.2.1 bt169.2.2.1 bt169.2.2.2).bind fun bt173 => ((laws_eqRef.f bt173.1 bt173.2.1 bt173.2.2.1 bt173.2.2.2.1 t159 t160 t161 t162).bind fun t179 => (if t179 = true then (if (bt173.2.2.2.2 != t163) = true then (some false) else (some true)) else (some false)))))) = some r := H
  have A5 := Aside0.mk A50
  clear A50
  replace H := Option.bind_eq_some_iff.mp H
  obtain ⟨⟨t165, t166, t167, t168⟩, A60, H⟩ := H
  replace H : ((laws_toRef.f a1_0 a1_1 a1_2 a1_3).bind fun bt169 => ((impl_TurnRef.f k t165 t166 t167 t168 bt169.1 bt169.2.1 bt169.2.2.1 bt169.2.2.2).bind fun bt173 => ((laws_eqRef.f bt173.1 bt173.2.1 bt173.2.2.1 bt173.2.2.2.1 t159 t160 t161 t162).bind fun t179 => (if t179 = true then (if (bt173.2.2.2.2 != t163) = true then (some false) else (some true)) else (some false))))) = some r := H
  have A6 := Aside0.mk A60
  clear A60
  replace H := Option.bind_eq_some_iff.mp H
  obtain ⟨⟨t169, t170, t171, t172⟩, A70, H⟩ := H
  replace H : ((impl_TurnRef.f k t165 t166 t167 t168 t169 t170 t171 t172).bind fun bt173 => ((laws_eqRef.f bt173.1 bt173.2.1 bt173.2.2.1 bt173.2.2.2.1 t159 t160 t161 t162).bind fun t179 => (if t179 = true then (if (bt173.2.2.2.2 != t163) = true then (some false) else (some true)) else (some false)))) = some r := H
  have A7 := Aside0.mk A70
  clear A70
  replace H := Option.bind_eq_some_iff.mp H
  obtain ⟨⟨t173, t174, t175, t176, t177⟩, A80, H⟩ := H
  replace H : ((laws_eqRef.f t173 t174 t175 t176 t159 t160 t161 t162).bind fun t179 => (if t179 = true then (if (t177 != t163) = true then (some false) else (some true)) else (some false))) = some r := H
  have A8 := Aside0.mk A80
  clear A80
  replace H := Option.bind_eq_some_iff.mp H
  obtain ⟨t179, A90, H⟩ := H
  replace H : (if t179 = true then (if (t177 != t163) = true then (some false) else (some true)) else (some false)) = some r := H
  have A9 := Aside0.mk A90
  clear A90
  by_cases c10 : t179 = true
  · exact laws_FnExactTurnRef.calls_p1 k a0_0 a0_1 a0_2 a0_3 a1_0 a1_1 a1_2 a1_3 r w t151 t152 t153 t154 t155 t156 t157 t158 t159 t160 t161 t162 t163 t165 t166 t167 t168 t169 t170 t171 t172 t173 t174 t175 t176 t177 t179 A3 A4 A5 A6 A7 A8 A9 c10 H
  · exact laws_FnExactTurnRef.calls_p2 k a0_0 a0_1 a0_2 a0_3 a1_0 a1_1 a1_2 a1_3 r w t151 t152 t153 t154 t155 t156 t157 t158 t159 t160 t161 t162 t163 t165 t166 t167 t168 t169 t170 t171 t172 t173 t174 t175 t176 t177 t179 A3 A4 A5 A6 A7 A8 A9 c10 H

end Go.Proofs.Ytaclplimbnihkaa.PFnExactTurnRef
