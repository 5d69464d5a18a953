/- Functions of the program as Lean functions, and proofs that the Go code comes to their answers: for the law FnAreas; made out of the print by a program of mine (compact.py). No conditions but each theorem's own. -/
import Derived.Test.YtjjignjjnnmajaaMFnAreasa0
import Derived.Test.YtjjignjjnnmajaaMFnAreasa2
import Derived.Test.YtjjignjjnnmajaaMFnAreasa3
import Derived.Test.YtjjignjjnnmajaaMFnAreasa5
import Derived.Test.YtjjignjjnnmajaaMFnAreasa6
import Derived.Test.YtjjignjjnnmajaaMFnAreasa8
import Derived.Test.YtjjignjjnnmajaaMFnAreasa10
import Derived.Test.YtjjignjjnnmajaaMFnAreasa11
namespace Go.Proofs.Ytjjignjjnnmajaa.PFnAreas
open List (map_toArray map_cons map_nil length_drop length_take set_cons_zero set_cons_succ setIfInBounds_toArray)
open Go.RowKit Go.Proofs.YtjjignjjnnmajaaW.PrintWords Go.Proofs.YtjjignjjnnmajaaW.PrintLast Go.Proofs.YtjjignjjnnmajaaW.PrintMore
attribute [local go_sem] max2_int min2_int max_two min_two max_three min_three max_four min_four   -- for this text's walks alone
set_option linter.unusedVariables false
set_option linter.unusedSimpArgs false

attribute [local go_sem high] eqA26
set_option maxHeartbeats 8000000 in
set_option maxRecDepth 100000 in
theorem laws_FnAreas.calls_p3 (k : Nat) (A0 : Option Addr) (c0 : Nat) (l0 : List Int) (r : Bool) (w : World) (hr0 : Kd.C (Kd.int .u8) w A0 l0.length l0) (hc0 : l0.length ≤ c0) (t479 : _) (t480 : _) (t481 : _) (t482 : _) (t483 : _) (t484 : _) (t485 : _) (t486 : _) (t487 : _) (t488 : _) (t489 : _) (t490 : _) (t491 : _) (t492 : _) (t493 : _) (t494 : _) (t497 : _) (t498 : _) (t499 : _) (t500 : _) (t501 : _) (t502 : _) (t503 : _) (t504 : _) (t505 : _) (t507 : _) (t510 : _) (t513 : _) (A3 : Aside0 ((spec_DrawWithout.f l0) = some (t479, t480, t481, t482, t483, t484, t485, t486, t487, t488, t489, t490, t491, t492, t493, t494))) (A4 : Aside0 ((impl_Meet.f k t479 t480 t481 t482 t483 t484 t485 t486 t487 t488 t489 t490 t491 t492 t493 t494) = some (t497, t498, t499, t500, t501, t502, t503, t504, t505))) (A5 : Aside0 ((impl_Without.f t479 t480 t481 t482 t483 t484 t485 t486 t487 t488 t489 t490 t491 t492 t493 t494) = some t507)) (A6 : Aside0 ((spec_Without.f k t479 t480 t481 t482 t483 t484 t485 t486 t487 t488 t489 t490 t491 t492 t493 t494) = some t510)) (A7 : Aside0 ((laws_zAreas.f k t507 t510) = some t513)) (c2 : ¬ ((l0.length : Int) > 1048576)) (c8 : ¬ (t513 = true)) (H : (if t513 = true then ((spec_GoodArea.f t479 t480 t481 t482 t483 t484 t485 t486).bind fun t514 => (if t514 = true then ((spec_GoodArea.f t487 t488 t489 t490 t491 t492 t493 t494).bind fun t515 => (laws_FnAreas.j0 k t505 t507 (!t515) t479 t480 t481 t482 t483 t484 t485 t486 t487 t488 t489 t490 t491 t492 t493 t494 t497 t498 t499 t500 t501 t502 t503 t504)) else (laws_FnAreas.j0 k t505 t507 true t479 t480 t481 t482 t483 t484 t485 t486 t487 t488 t489 t490 t491 t492 t493 t494 t497 t498 t499 t500 t501 t502 t503 t504))) else (some false)) = some r) (hr : r = true) :
  Calls Try.prog 3 #[.slice A0 l0.length c0] w fun e w' => e = .returned (.bool r) ∧ Below w.heap.size w w' := by
 have hu26 := Try.underlying26
 have HR0 := Aside0.mk hr0
 have HC0 := Aside0.mk hc0
 clear hr0 hc0
 have HB := Aside0.mk (Below.refl w.heap.size w)
 have c2b0 : decide (1048576 < (l0.length : Int)) = false := decide_eq_false c2
 have c2b1 : decide (1048576 < l0.length) = false := decide_eq_false (by omega)
 clear c2
 replace c8 := Bool.eq_false_iff.mpr c8
 subst c8
 have H1 : (some false) = some r := by rw [if_neg (show ¬ (false = true) by decide)] at H; exact H
 clear H
 have H := H1
 clear H1
 exact absurd ((Option.some.inj H).trans hr) (by decide)

set_option maxHeartbeats 8000000 in
set_option maxRecDepth 100000 in
theorem laws_FnAreas.calls (k : Nat) (A0 : Option Addr) (c0 : Nat) (l0 : List Int) (r : Bool) (w : World) (hr0 : Kd.C (Kd.int .u8) w A0 l0.length l0) (hc0 : l0.length ≤ c0) (h : laws_FnAreas.f k l0 = some r) (hr : r = true) :
  Calls Try.prog 3 #[.slice A0 l0.length c0] w fun e w' => e = .returned (.bool r) ∧ Below w.heap.size w w' := by
 have H : (if (l0.length : Int) > 1048576 then (some true) else ((spec_DrawWithout.f l0).bind fun bt479 => ((impl_Meet.f k bt479.1 bt479.2.1 bt479.2.2.1 bt479.2.2.2.1 bt479.2.2.2.2.1 bt479.2.2.2.2.2.1 bt479.2.2.2.2.2.2.1 bt479.2.2.2.2.2.2.2.1 bt479.2.2.2.2.2.2.2.2.1 bt479.2.2.2.2.2.2.2.2.2.1 bt479.2.2.2.2.2.2.2.2.2.2.1 bt479.2.2.2.2.2.2.2.2.2.2.2.1 bt479.2.2.2.2.2.2.2.2.2.2.2.2.1 bt479.2.2.2.2.2.2.2.2.2.2.2.2.2.1 bt479.2.2.2.2.2.2.2.2.2.2.2.2.2.2.1 bt479.2.2.2.2.2.2.2.2.2.2.2.2.2.2.2).bind fun bt497 => ((impl_Without.f bt479.1 bt479.2.1 bt479.2.2.1 bt479.2.2.2.1 bt479.2.2.2.2.1 bt479.2.2.2.2.2.1 bt479.2.2.2.2.2.2.1 bt479.2.2.2.2.2.2.2.1 bt479.2.2.2.2.2.2.2.2.1 bt479.2.2.2.2.2.2.2.2.2.1 bt479.2.2.2.2.2.2.2.2.2.2.1 bt479.2.2.2.2.2.2.2.2.2.2.2.1 bt479.2.2.2.2.2.2.2.2.2.2.2.2.1 bt479.2.2.2.2.2.2.2.2.2.2.2.2.2.1 bt479.2.2.2.2.2.2.2.2.2.2.2.2.2.2.1 bt479.2.2.2.2.2.2.2.2.2.2.2.2.2.2.2).bind fun t507 => ((spec_Without.f k bt479.1 bt479.2.1 bt479.2.2.1 bt479.2.2.2.1 bt479.2.2.2.2.1 bt479.2.2.2.2.2.1 bt479.2.2.2.2.2.2.1 bt479.2.2.2.2.2.2.2.1 bt479.2.2.2.2.2.2.2.2.1 bt479.2.2.2.2.2.2.2.2.2.1 bt479.2.2.2.2.2.2.2.2.2.2.1 bt479.2.2.2.2.2.2.2.2.2.2.2.1 bt479.2.2.2.2.2.2.2.2.2.2.2.2.1 bt479.2.2.2.2.2.2.2.2.2.2.2.2.2.1 bt479.2.2.2.2.2.2.2.2.2.2.2.2.2.2.1 bt479.2.2.2.2.2.2.2.2.2.2.2.2.2.2.2).bind fun t510 => ((laws_zAreas.f k t507 t510).bind fun t513 => (if t513 = true then ((spec_GoodArea.f bt479.1 bt479.2.1 bt479.2.2.1 bt479.2.2.2.1 bt479.2.2.2.2.1 bt479.2.2.2.2.2.1 bt479.2.2.2.2.2.2.1 bt479.2.2.2.2.2.2.2.1).bind fun t514 => (if t514 = true then ((spec_GoodArea.f bt479.2.2.2.2.2.2.2.2.1 bt479.2.2.2.2.2.2.2.2.2.1 bt479.2.2.2.2.2.2.2.2.2.2.1 bt479.2.2.2.2.2.2.2.2.2.2.2.1 bt479.2.2.2.2.2.2.2.2.2.2.2.2.1 bt479.2.2.2.2.2.2.2.2.2.2.2.2.2.1 bt479.2.2.2.2.2.2.2.2.2.2.2.2.2.2.1 bt479.2.2.2.2.2.2.2.2.2.2.2.2.2.2.2).bind fun t515 => (laws_FnAreas.j0 k bt497.2.2.2.2.2.2.2.2 t507 (!t515) bt479.1 bt479.2.1 bt479.2.2.1 bt479.2.2.2.1 bt479.2.2.2.2.1 bt479.2.2.2.2.2.1 bt479.2.2.2.2.2.2.1 bt479.2.2.2.2.2.2.2.1 bt479.2.2.2.2.2.2.2.2.1 bt479.2.2.2.2.2.2.2.2.2.1 bt479.2.2.2.2.2.2.2.2.2.2.1 bt479.2.2.2.2.2.2.2.2.2.2.2.1 bt479.2.2.2.2.2.2.2.2.2.2.2.2.1 bt479.2.2.2.2.2.2.2.2.2.2.2.2.2.1 bt479.2.2.2.2.2.2.2.2.2.2.2.2.2.2.1 bt479.2.2.2.2.2.2.2.2.2.2.2.2.2.2.2 bt497.1 bt497.2.1 bt497.2.2.1 bt497.2.2.2.1 bt497.2.2.2.2.1 bt497.2.2.2.2.2.1 bt497.2.2.2.2.2.2.1 bt497.2.2.2.2.2.2.2.1)) else (laws_FnAreas.j0 k bt497.2.2.2.2.2.2.2.2 t507 true bt479.1 bt479.2.1 bt479.2.2.1 bt479.2.2.2.1 bt479.2.2.2.2.1 bt479.2.2.2.2.2.1 bt479.2.2.2.2.2.2.1 bt479.2.2.2.2.2.2.2.1 bt479.2.2.2.2.2.2.2.2.1 bt479.2.2.2.2.2.2.2.2.2.1 bt479.2.2.2.2.2.2.2.2.2.2.1 bt479.2.2.2.2.2.2.2.2.2.2.2.1 bt479.2.2.2.2.2.2.2.2.2.2.2.2.1 bt479.2.2.2.2.2.2.2.2.2.2.2.2.2.1 bt479.2.2.2.2.2.2.2.2.2.2.2.2.2.2.1 bt479.2.2.2.2.2.2.2.2.2.2.2.2.2.2.2 bt497.1 bt497.2.1 bt497.2.2.1 bt497.2.2.2.1 bt497.2.2.2.2.1 bt497.2.2.2.2.2.1 bt497.2.2.2.2.2.2.1 bt497.2.2.2.2.2.2.2.1))) else (some false)))))))) = some r := h
 by_cases c2 : (l0.length : Int) > 1048576
 ·rw [if_pos c2] at H
  exact laws_FnAreas.calls_p1 k A0 c0 l0 r w hr0 hc0 c2 H hr
 ·rw [if_neg c2] at H
  replace H := Option.bind_eq_some_iff.mp H
  obtain ⟨⟨t479, t480, t481, t482, t483, t484, t485, t486, t487, t488, t489, t490, t491, t492, t493, t494⟩, A30, H⟩ := H
  replace H : ((impl_Meet.f k t479 t480 t481 t482 t483 t484 t485 t486 t487 t488 t489 t490 t491 t492 t493 t494).bind fun bt497 => ((impl_Without.f t479 t480 t481 t482 t483 t484 t485 t486 t487 t488 t489 t490 t491 t492 t493 t494).bind fun t507 => ((spec_Without.f k t479 t480 t481 t482 t483 t484 t485 t486 t487 t488 t489 t490 t491 t492 t493 t494).bind fun t510 => ((laws_zAreas.f k t507 t510).bind fun t513 => (if t513 = true then ((spec_GoodArea.f t479 t480 t481 t482 t483 t484 t485 t486).bind fun t514 => (if t514 = true then ((spec_GoodArea.f t487 t488 t489 t490 t491 t492 t493 t494).bind fun t515 => (laws_FnAreas.j0 k bt497.2.2.2.2.2.2.2.2 t507 (!t515) t479 t480 t481 t482 t483 t484 t485 t486 t487 t488 t489 t490 t491 t492 t493 t494 bt497.1 bt497.2.1 bt497.2.2.1 bt497.2.2.2.1 bt497.2.2.2.2.1 bt497.2.2.2.2.2.1 bt497.2.2.2.2.2.2.1 bt497.2.2.2.2.2.2.2.1)) else (laws_FnAreas.j0 k bt497.2.2.2.2.2.2.2.2 t507 true t479 t480 t481 t482 t483 t484 t485 t486 t487 t488 t489 t490 t491 t492 t493 t494 bt497.1 bt497.2.1 bt497.2.2.1 bt497.2.2.2.1 bt497.2.2.2.2.1 bt497.2.2.2.2.2.1 bt497.2.2.2.2.2.2.1 bt497.2.2.2.2.2.2.2.1))) else (some false)))))) = some r := H
  have A3 := Aside0.mk A30
  clear A30
  replace H := Option.bind_eq_some_iff.mp H
  obtain ⟨⟨t497, t498, t499, t500, t501, t502, t503, t504, t505⟩, A40, H⟩ := H
  replace H : ((impl_Without.f t479 t480 t481 t482 t483 t484 t485 t486 t487 t488 t489 t490 t491 t492 t493 t494).bind fun t507 => ((spec_Without.f k t479 t480 t481 t482 t483 t484 t485 t486 t487 t488 t489 t490 t491 t492 t493 t494).bind fun t510 => ((laws_zAreas.f k t507 t510).bind fun t513 => (if t513 = true then ((spec_GoodArea.f t479 t480 t481 t482 t483 t484 t485 t486).bind fun t514 => (if t514 = true then ((spec_GoodArea.f t487 t488 t489 t490 t491 t492 t493 t494).bind fun t515 => (laws_FnAreas.j0 k t505 t507 (!t515) t479 t480 t481 t482 t483 t484 t485 t486 t487 t488 t489 t490 t491 t492 t493 t494 t497 t498 t499 t500 t501 t502 t503 t504)) else (laws_FnAreas.j0 k t505 t507 true t479 t480 t481 t482 t483 t484 t485 t486 t487 t488 t489 t490 t491 t492 t493 t494 t497 t498 t499 t500 t501 t502 t503 t504))) else (some false))))) = some r := H
  have A4 := Aside0.mk A40
  clear A40
  replace H := Option.bind_eq_some_iff.mp H
  obtain ⟨t507, A50, H⟩ := H
  replace H : ((spec_Without.f k t479 t480 t481 t482 t483 t484 t485 t486 t487 t488 t489 t490 t491 t492 t493 t494).bind fun t510 => ((laws_zAreas.f k t507 t510).bind fun t513 => (if t513 = true then ((spec_GoodArea.f t479 t480 t481 t482 t483 t484 t485 t486).bind fun t514 => (if t514 = true then ((spec_GoodArea.f t487 t488 t489 t490 t491 t492 t493 t494).bind fun t515 => (laws_FnAreas.j0 k t505 t507 (!t515) t479 t480 t481 t482 t483 t484 t485 t486 t487 t488 t489 t490 t491 t492 t493 t494 t497 t498 t499 t500 t501 t502 t503 t504)) else (laws_FnAreas.j0 k t505 t507 true t479 t480 t481 t482 t483 t484 t485 t486 t487 t488 t489 t490 t491 t492 t493 t494 t497 t498 t499 t500 t501 t502 t503 t504))) else (some false)))) = some r := H
  have A5 := Aside0.mk A50
  clear A50
  replace H := Option.bind_eq_some_iff.mp H
  obtain ⟨t510, A60, H⟩ := H
  replace H : ((laws_zAreas.f k t507 t510).bind fun t513 => (if t513 = true then ((spec_GoodArea.f t479 t480 t481 t482 t483 t484 t485 t486).bind fun t514 => (if t514 = true then ((spec_GoodArea.f t487 t488 t489 t490 t491 t492 t493 t494).bind fun t515 => (laws_FnAreas.j0 k t505 t507 (!t515) t479 t480 t481 t482 t483 t484 t485 t486 t487 t488 t489 t490 t491 t492 t493 t494 t497 t498 t499 t500 t501 t502 t503 t504)) else (laws_FnAreas.j0 k t505 t507 true t479 t480 t481 t482 t483 t484 t485 t486 t487 t488 t489 t490 t491 t492 t493 t494 t497 t498 t499 t500 t501 t502 t503 t504))) else (some false))) = some r := H
  have A6 := Aside0.mk A60
  clear A60
  replace H := Option.bind_eq_some_iff.mp H
  obtain ⟨t513, A70, H⟩ := H
  replace H : (if t513 = true then ((spec_GoodArea.f t479 t480 t481 t482 t483 t484 t485 t486).bind fun t514 => (if t514 = true then ((spec_GoodArea.f t487 t488 t489 t490 t491 t492 t493 t494).bind fun t515 => (laws_FnAreas.j0 k t505 t507 (!t515) t479 t480 t481 t482 t483 t484 t485 t486 t487 t488 t489 t490 t491 t492 t493 t494 t497 t498 t499 t500 t501 t502 t503 t504)) else (laws_FnAreas.j0 k t505 t507 true t479 t480 t481 t482 t483 t484 t485 t486 t487 t488 t489 t490 t491 t492 t493 t494 t497 t498 t499 t500 t501 t502 t503 t504))) else (some false)) = some r := H
  have A7 := Aside0.mk A70
  clear A70
  by_cases c8 : t513 = true
  ·exact laws_FnAreas.calls_p2 k A0 c0 l0 r w hr0 hc0 t479 t480 t481 t482 t483 t484 t485 t486 t487 t488 t489 t490 t491 t492 t493 t494 t497 t498 t499 t500 t501 t502 t503 t504 t505 t507 t510 t513 A3 A4 A5 A6 A7 c2 c8 H hr
  ·exact laws_FnAreas.calls_p3 k A0 c0 l0 r w hr0 hc0 t479 t480 t481 t482 t483 t484 t485 t486 t487 t488 t489 t490 t491 t492 t493 t494 t497 t498 t499 t500 t501 t502 t503 t504 t505 t507 t510 t513 A3 A4 A5 A6 A7 c2 c8 H hr

end Go.Proofs.Ytjjignjjnnmajaa.PFnAreas
