/- Functions of the program as Lean functions, and proofs that the Go code comes to their answers: for the law FnDays; made out of the print by a program of mine (compact.py). No conditions but each theorem's own. -/
import Derived.Test.YtffamggcjijobaaDoorMFnDaysa0
import Derived.Test.YtffamggcjijobaaDoorMFnDaysa1
import Derived.Test.YtffamggcjijobaaDoorMFnDaysa2
import Derived.Test.YtffamggcjijobaaDoorMFnDaysa4
import Derived.Test.YtffamggcjijobaaDoorMFnDaysa12
import Derived.Test.YtffamggcjijobaaDoorMFnDaysa13
namespace Go.Proofs.YtffamggcjijobaaDoor.PFnDays
open List (map_toArray map_cons map_nil length_drop length_take set_cons_zero set_cons_succ setIfInBounds_toArray)
open Go.RowKit Go.Proofs.YtffamggcjijobaaDoorW.PrintWords Go.Proofs.YtffamggcjijobaaDoorW.PrintLast Go.Proofs.YtffamggcjijobaaDoorW.PrintMore
attribute [local go_sem] max2_int min2_int max_two min_two max_three min_three max_four min_four   -- for this text's walks alone
set_option linter.unusedVariables false
set_option linter.unusedSimpArgs false

attribute [local go_sem high] eqA36
set_option maxHeartbeats 8000000 in
set_option maxRecDepth 100000 in
theorem laws_FnDays.calls (k : Nat) (A0 : Option Addr) (c0 : Nat) (l0 : List Int) (r : Bool) (w : World) (hr0 : Kd.C (Kd.int .u8) w A0 l0.length l0) (hc0 : l0.length ≤ c0) (hT : Tab w) (h : laws_FnDays.f k l0 = some r) (hr : r = true) :
  Calls Tryd.prog 5 #[.slice A0 l0.length c0] w fun e w' => e = .returned (.bool r) ∧ Below w.heap.size w w' := by
 have H : (if (l0.length : Int) > 1048576 then (some true) else ((spec_DrawDateOf.f k l0).bind fun bt362 => ((impl_DateOf.f k bt362.1 bt362.2).bind fun bt364 => ((spec_DateOf.f k bt362.1 bt362.2).bind fun bt368 => (if (!(bt364.1 == bt368.1) || (!(bt364.2.1 == bt368.2.1) || (!(bt364.2.2 == bt368.2.2)))) = true then (some false) else (if (bt364.1 == 0 && (bt364.2.1 == 0 && (bt364.2.2 == 0))) = true then ((impl_Weekday.f bt362.2).bind fun t371 => ((spec_Weekday.f bt362.2).bind fun t372 => (some (t371 == t372)))) else ((impl_DayOf.f k bt362.1 bt364.1 bt364.2.1 bt364.2.2).bind fun bt373 => (if bt373.2 = true then (laws_FnDays.j0 k l0 bt362.1 bt362.2 (bt373.1 != bt362.2) bt364.1 bt364.2.1 bt364.2.2) else (laws_FnDays.j0 k l0 bt362.1 bt362.2 true bt364.1 bt364.2.1 bt364.2.2))))))))) = some r := h
 by_cases c2 : (l0.length : Int) > 1048576
 ·rw [if_pos c2] at H
  exact laws_FnDays.calls_p1 k A0 c0 l0 r w hr0 hc0 hT c2 H
 ·rw [if_neg c2] at H
  replace H := Option.bind_eq_some_iff.mp H
  obtain ⟨⟨t362, t363⟩, A30, H⟩ := H
  replace H : ((impl_DateOf.f k t362 t363).bind fun bt364 => ((spec_DateOf.f k t362 t363).bind fun bt368 => (if (!(bt364.1 == bt368.1) || (!(bt364.2.1 == bt368.2.1) || (!(bt364.2.2 == bt368.2.2)))) = true then (some false) else (if (bt364.1 == 0 && (bt364.2.1 == 0 && (bt364.2.2 == 0))) = true then ((impl_Weekday.f t363).bind fun t371 => ((spec_Weekday.f t363).bind fun t372 => (some (t371 == t372)))) else ((impl_DayOf.f k t362 bt364.1 bt364.2.1 bt364.2.2).bind fun bt373 => (if bt373.2 = true then (laws_FnDays.j0 k l0 t362 t363 (bt373.1 != t363) bt364.1 bt364.2.1 bt364.2.2) else (laws_FnDays.j0 k l0 t362 t363 true bt364.1 bt364.2.1 bt364.2.2))))))) = some r := H
  have A3 := Aside0.mk A30
  clear A30
  replace H := Option.bind_eq_some_iff.mp H
  obtain ⟨⟨t364, t365, t366⟩, A40, H⟩ := H
  replace H : ((spec_DateOf.f k t362 t363).bind fun bt368 => (if (!(t364 == bt368.1) || (!(t365 == bt368.2.1) || (!(t366 == bt368.2.2)))) = true then (some false) else (if (t364 == 0 && (t365 == 0 && (t366 == 0))) = true then ((impl_Weekday.f t363).bind fun t371 => ((spec_Weekday.f t363).bind fun t372 => (some (t371 == t372)))) else ((impl_DayOf.f k t362 t364 t365 t366).bind fun bt373 => (if bt373.2 = true then (laws_FnDays.j0 k l0 t362 t363 (bt373.1 != t363) t364 t365 t366) else (laws_FnDays.j0 k l0 t362 t363 true t364 t365 t366)))))) = some r := H
  have A4 := Aside0.mk A40
  clear A40
  replace H := Option.bind_eq_some_iff.mp H
  obtain ⟨⟨t368, t369, t370⟩, A50, H⟩ := H
  replace H : (if (!(t364 == t368) || (!(t365 == t369) || (!(t366 == t370)))) = true then (some false) else (if (t364 == 0 && (t365 == 0 && (t366 == 0))) = true then ((impl_Weekday.f t363).bind fun t371 => ((spec_Weekday.f t363).bind fun t372 => (some (t371 == t372)))) else ((impl_DayOf.f k t362 t364 t365 t366).bind fun bt373 => (if bt373.2 = true then (laws_FnDays.j0 k l0 t362 t363 (bt373.1 != t363) t364 t365 t366) else (laws_FnDays.j0 k l0 t362 t363 true t364 t365 t366))))) = some r := H
  have A5 := Aside0.mk A50
  clear A50
  by_cases c6 : (!(t364 == t368) || (!(t365 == t369) || (!(t366 == t370)))) = true
  ·rw [if_pos c6] at H
   exact absurd (Option.some.inj H) (by rw [hr]; decide)
  ·rw [if_neg c6] at H
   by_cases c14 : (t364 == 0 && (t365 == 0 && (t366 == 0))) = true
   ·rw [if_pos c14] at H
    replace H := Option.bind_eq_some_iff.mp H
    obtain ⟨t371, A150, H⟩ := H
    replace H : ((spec_Weekday.f t363).bind fun t372 => (some (t371 == t372))) = some r := H
    have A15 := Aside0.mk A150
    clear A150
    replace H := Option.bind_eq_some_iff.mp H
    obtain ⟨t372, A160, H⟩ := H
    replace H : (some (t371 == t372)) = some r := H
    have A16 := Aside0.mk A160
    clear A160
    exact laws_FnDays.calls_p2 k A0 c0 l0 r w hr0 hc0 hT t362 t363 t364 t365 t366 t368 t369 t370 t371 t372 A3 A4 A5 A15 A16 c2 c6 c14 H
   ·rw [if_neg c14] at H
    replace H := Option.bind_eq_some_iff.mp H
    obtain ⟨⟨t373, t374⟩, A250, H⟩ := H
    replace H : (if t374 = true then (laws_FnDays.j0 k l0 t362 t363 (t373 != t363) t364 t365 t366) else (laws_FnDays.j0 k l0 t362 t363 true t364 t365 t366)) = some r := H
    have A25 := Aside0.mk A250
    clear A250
    exact laws_FnDays.calls_p3 k A0 c0 l0 r w hr0 hc0 hT t362 t363 t364 t365 t366 t368 t369 t370 t373 t374 A3 A4 A5 A25 c2 c6 c14 H

end Go.Proofs.YtffamggcjijobaaDoor.PFnDays
