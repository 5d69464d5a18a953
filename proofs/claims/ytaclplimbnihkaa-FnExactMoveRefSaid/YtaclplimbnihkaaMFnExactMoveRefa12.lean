/- Functions of the program as Lean functions, and proofs that the Go code comes to their answers: for the law FnExactMoveRef; made out of the print by a program of mine (compact.py). No conditions but each theorem's own. -/
import Derived.Test.YtaclplimbnihkaaMFnExactMoveRefa0
import Derived.Test.YtaclplimbnihkaaMFnExactMoveRefa3
import Derived.Test.YtaclplimbnihkaaMFnExactMoveRefa4
import Derived.Test.YtaclplimbnihkaaMFnExactMoveRefa7
import Derived.Test.YtaclplimbnihkaaMFnExactMoveRefa9
import Derived.Test.YtaclplimbnihkaaMFnExactMoveRefa10
import Derived.Test.YtaclplimbnihkaaMFnExactMoveRefa11
namespace Go.Proofs.Ytaclplimbnihkaa.PFnExactMoveRef
open Go.RowKit Go.Proofs.YtaclplimbnihkaaW.PrintWords Go.Proofs.YtaclplimbnihkaaW.PrintLast Go.Proofs.YtaclplimbnihkaaW.PrintMore
attribute [local go_sem] max2_int min2_int max_two min_two max_three min_three max_four min_four   -- for this text's walks alone
set_option linter.unusedVariables false
set_option linter.unusedSimpArgs false

set_option maxHeartbeats 8000000 in
set_option maxRecDepth 100000 in
theorem laws_FnExactMoveRef.calls (k : Nat) (a0_0 : Int) (a0_1 : Int) (a0_2 : Bool) (a0_3 : Bool) (a0_4 : Int) (a0_5 : Int) (a0_6 : Bool) (a0_7 : Bool) (a0_8 : Int) (a0_9 : Int) (a1_0 : Int) (a1_1 : Int) (a1_2 : Bool) (a1_3 : Bool) (r : Bool) (w : World) (h : laws_FnExactMoveRef.f k a0_0 a0_1 a0_2 a0_3 a0_4 a0_5 a0_6 a0_7 a0_8 a0_9 a1_0 a1_1 a1_2 a1_3 = some r) (hr : r = true) :
    Calls Try.prog 8 #[.agg #[.int .i64 a0_0, .int .i64 a0_1, .bool a0_2, .bool a0_3, .int .i64 a0_4, .int .i64 a0_5, .bool a0_6, .bool a0_7, .int .i64 a0_8, .int .i64 a0_9], .agg #[.int .i64 a1_0, .int .i64 a1_1, .bool a1_2, .bool a1_3]] w fun e w' => e = .returned (.bool r) ∧ Below w.heap.size w w' := by
  have H : ((laws_toMove.f a0_0 a0_1 a0_2 a0_3 a0_4 a0_5 a0_6 a0_7 a0_8 a0_9).bind fun bt249 => ((laws_toRef.f a1_0 a1_1 a1_2 a1_3).bind fun bt259 => ((spec_MoveRef.f k bt249.1 bt249.2.1 bt249.2.2.1 bt249.2.2.2.1 bt249.2.2.2.2.1 bt249.2.2.2.2.2.1 bt249.2.2.2.2.2.2.1 bt249.2.2.2.2.2.2.2.1 bt249.2.2.2.2.2.2.2.2.1 bt249.2.2.2.2.2.2.2.2.2 bt259.1 bt259.2.1 bt259.2.2.1 bt259.2.2.2).bind fun bt263 => ((laws_toMove.f a0_0 a0_1 a0_2 a0_3 a0_4 a0_5 a0_6 a0_7 a0_8 a0_9).bind fun bt268 => ((laws_toRef.f a1_0 a1_1 a1_2 a1_3).bind fun bt278 => ((impl_MoveRef.f bt268.1 bt268.2.1 bt268.2.2.1 bt268.2.2.2.1 bt268.2.2.2.2.1 bt268.2.2.2.2.2.1 bt268.2.2.2.2.2.2.1 bt268.2.2.2.2.2.2.2.1 bt268.2.2.2.2.2.2.2.2.1 bt268.2.2.2.2.2.2.2.2.2 bt278.1 bt278.2.1 bt278.2.2.1 bt278.2.2.2).bind fun bt282 => ((laws_eqRef.f bt282.1 bt282.2.1 bt282.2.2.1 bt282.2.2.2 bt263.1 bt263.2.1 bt263.2.2.1 bt263.2.2.2).bind fun t287 => (if t287 = true then (some true) else (some false))))))))) = some r := h
  replace H := Option.bind_eq_some_iff.mp H
  obtain ⟨⟨t249, t250, t251, t252, t253, t254, t255, t256, t257, t258⟩, A30, H⟩ := H
  replace H : ((laws_toRef.f a1_0 a1_1 a1_2 a1_3).bind fun bt259 => ((spec_MoveRef.f k t249 t250 t251 t252 t253 t254 t255 t256 t257 t258 bt259.1 bt259.2.1 bt259.2.2.1 bt259.2.2.2).bind fun bt263 => ((laws_toMove.f a0_0 a0_1 a0_2 a0_3 a0_4 a0_5 a0_6 a0_7 a0_8 a0_9).bind fun bt268 => ((laws_toRef.f a1_0 a1_1 a1_2 a1_3).bind fun bt278 => ((impl_MoveRef.f bt268.1 bt268.2.1 bt268.2.2.1 bt268.2.2.2.1 bt268.2.2.2.2.1 bt268.2.2.2.2.2.1 bt268.2.2.2.2.2.2.1 bt268.2.2.2.2.2.2.2.1 bt268.2.2.2.2.2.2.2.2.1 bt268.2.2.2.2.2.2.2.2.2 bt278.1 bt278.2.1 bt278.2.2.1 bt278.2.2.2).bind fun bt282 => ((laws_eqRef.f bt282.1 bt282.2.1 bt282.2.2.1 bt282.2.2.2 bt263.1 bt263.2.1 bt263.2.2.1 bt263.2.2.2).bind fun t287 => (if t287 = true then (some true) else (some false)))))))) = some r := H
  have A3 := Aside0.mk A30
  clear A30
  replace H := Option.bind_eq_some_iff.mp H
  obtain ⟨⟨t259, t260, t261, t262⟩, A40, H⟩ := H
  replace H : ((spec_MoveRef.f k t249 t250 t251 t252 t253 t254 t255 t256 t257 t258 t259 t260 t261 t262).bind fun bt263 => ((laws_toMove.f a0_0 a0_1 a0_2 a0_3 a0_4 a0_5 a0_6 a0_7 a0_8 a0_9).bind fun bt268 => ((laws_toRef.f a1_0 a1_1 a1_2 a1_3).bind fun bt278 => ((impl_MoveRef.f bt268.1 bt268.2.1 bt268.2.2.1 bt268.2.2.2.1 bt268.2.2.2.2.1 bt268.2.2.2.2.2.1 bt268.2.2.2.2.2.2.1 bt268.2.2.2.2.2.2.2.1 bt268.2.2.2.2.2.2.2.2.1 bt268.2.2.2.2.2.2.2.2.2 bt278.1 bt278.2.1 bt278.2.2.1 bt278.2.2.2).bind fun bt282 => ((laws_eqRef.f bt282.1 bt282.2.1 bt282.2.2.1 bt282.2.2.2 bt263.1 bt263.2.1 bt263.2.2.1 bt263.2.2.2).bind fun t287 => (if t287 = true then (some true) else (some false))))))) = some r := H
  have A4 := Aside0.mk A40
  clear A40
  replace H := Option.bind_eq_some_iff.mp H
  obtain ⟨⟨t263, t264, t265, t266⟩, A50, H⟩ := H
  replace H : ((laws_toMove.f a0_0 a0_1 a0_2 a0_3 a0_4 a0_5 a0_6 a0_7 a0_8 a0_9).bind fun bt268 => ((laws_toRef.f a1_0 a1_1 a1_2 a1_3).bind fun bt278 => ((impl_MoveRef.f bt268.1 bt268.2.1 bt268.2.2.1 bt268.2.2.2.1 bt268.2.2.2.2.1 bt268.2.2.2.2.2.1 bt268.2.2.2.2.2.2.1 bt268.2.2.2.2.2.2.2.1 bt268.2.2.2.2.2.2.2.2.1 bt268.2.2.2.2.2.2.2.2.2 bt278.1 bt278.2.1 bt278.2.2.1 bt278.2.2.2).bind fun bt282 => ((laws_eqRef.f bt282.1 bt282.2.1 bt282.2.2.1 bt282.2.2.2 t263 t264 t265 t266).bind fun t287 => (if t287 = true then (some true) else (some false)))))) = some r := H
  have A5 := Aside0.mk A50
  clear A50
  replace H := Option.bind_eq_some_iff.mp H
  obtain ⟨⟨t268, t269, t270, t271, t272, t273, t274, t275, t276, t277⟩, A60, H⟩ := H
  replace H : ((laws_toRef.f a1_0 a1_1 a1_2 a1_3).bind fun bt278 => ((impl_MoveRef.f t268 t269 t270 t271 t272 t273 t274 t275 t276 t277 bt278.1 bt278.2.1 bt278.2.2.1 bt278.2.2.2).bind fun bt282 => ((laws_eqRef.f bt282.1 bt282.2.1 bt282.2.2.1 bt282.2.2.2 t263 t264 t265 t266).bind fun t287 => (if t287 = true then (some true) else (some false))))) = some r := H
  have A6 := Aside0.mk A60
  clear A60
  replace H := Option.bind_eq_some_iff.mp H
  obtain ⟨⟨t278, t279, t280, t281⟩, A70, H⟩ := H
  replace H : ((impl_MoveRef.f t268 t269 t270 t271 t272 t273 t274 t275 t276 t277 t278 t279 t280 t281).bind fun bt282 => ((laws_eqRef.f bt282.1 bt282.2.1 bt282.2.2.1 bt282.2.2.2 t263 t264 t265 t266).bind fun t287 => (if t287 = true then (some true) else (some false)))) = some r := H
  have A7 := Aside0.mk A70
  clear A70
  replace H := Option.bind_eq_some_iff.mp H
  obtain ⟨⟨t282, t283, t284, t285⟩, A80, H⟩ := H
  replace H : ((laws_eqRef.f t282 t283 t284 t285 t263 t264 t265 t266).bind fun t287 => (if t287 = true then (some true) else (some false))) = some r := H
  have A8 := Aside0.mk A80
  clear A80
  replace H := Option.bind_eq_some_iff.mp H
  obtain ⟨t287, A90, H⟩ := H
  replace H : (if t287 = true then (some true) else (some false)) = some r := H
  have A9 := Aside0.mk A90
  clear A90
  by_cases c10 : t287 = true
  · exact laws_FnExactMoveRef.calls_p1 k a0_0 a0_1 a0_2 a0_3 a0_4 a0_5 a0_6 a0_7 a0_8 a0_9 a1_0 a1_1 a1_2 a1_3 r w t249 t250 t251 t252 t253 t254 t255 t256 t257 t258 t259 t260 t261 t262 t263 t264 t265 t266 t268 t269 t270 t271 t272 t273 t274 t275 t276 t277 t278 t279 t280 t281 t282 t283 t284 t285 t287 A3 A4 A5 A6 A7 A8 A9 c10 H
  · exact laws_FnExactMoveRef.calls_p2 k a0_0 a0_1 a0_2 a0_3 a0_4 a0_5 a0_6 a0_7 a0_8 a0_9 a1_0 a1_1 a1_2 a1_3 r w t249 t250 t251 t252 t253 t254 t255 t256 t257 t258 t259 t260 t261 t262 t263 t264 t265 t266 t268 t269 t270 t271 t272 t273 t274 t275 t276 t277 t278 t279 t280 t281 t282 t283 t284 t285 t287 A3 A4 A5 A6 A7 A8 A9 c10 H

end Go.Proofs.Ytaclplimbnihkaa.PFnExactMoveRef
