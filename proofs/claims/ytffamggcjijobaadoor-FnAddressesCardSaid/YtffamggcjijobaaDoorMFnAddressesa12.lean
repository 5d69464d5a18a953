/- Functions of the program as Lean functions, and proofs that the Go code comes to their answers: for the law FnAddresses; made out of the print by a program of mine (compact.py). No conditions but each theorem's own. -/
import Derived.Test.YtffamggcjijobaaDoorMFnAddressesa0
import Derived.Test.YtffamggcjijobaaDoorMFnAddressesa1
import Derived.Test.YtffamggcjijobaaDoorMFnAddressesa2
import Derived.Test.YtffamggcjijobaaDoorMFnAddressesa3
import Derived.Test.YtffamggcjijobaaDoorMFnAddressesa4
import Derived.Test.YtffamggcjijobaaDoorMFnAddressesa10
import Derived.Test.YtffamggcjijobaaDoorMFnAddressesa11
namespace Go.Proofs.YtffamggcjijobaaDoor.PFnAddresses
open Go.RowKit Go.Proofs.YtffamggcjijobaaDoorW.PrintWords Go.Proofs.YtffamggcjijobaaDoorW.PrintLast Go.Proofs.YtffamggcjijobaaDoorW.PrintMore
attribute [local go_sem] max2_int min2_int max_two min_two max_three min_three max_four min_four   -- for this text's walks alone
set_option linter.unusedVariables false
set_option linter.unusedSimpArgs false

attribute [local go_sem high] eqA50
set_option maxHeartbeats 8000000 in
set_option maxRecDepth 100000 in
theorem laws_FnAddresses.calls (k : Nat) (A0 : Option Addr) (c0 : Nat) (l0 : List Int) (r : Bool) (w : World) (hr0 : Kd.C (Kd.int .u8) w A0 l0.length l0) (hc0 : l0.length ≤ c0) (hT : Tab w) (h : laws_FnAddresses.f k l0 = some r) (hr : r = true) :
    Calls Tryd.prog 6 #[.slice A0 l0.length c0] w fun e w' => e = .returned (.bool r) ∧ Below w.heap.size w w' := by
  have H : (if (l0.length : Int) > 1048576 then (some true) else ((spec_DrawRefTextBy.f l0).bind fun bt418 => ((impl_RefText.f k bt418.1 bt418.2.1 bt418.2.2.1 bt418.2.2.2.1).bind fun t425 => ((impl_RefTextBy.f k bt418.1 bt418.2.1 bt418.2.2.1 bt418.2.2.2.1 bt418.2.2.2.2.1 bt418.2.2.2.2.2).bind fun t426 => ((spec_RefText.f k bt418.1 bt418.2.1 bt418.2.2.1 bt418.2.2.2.1).bind fun t427 => (if t425.toList = t427.toList then ((spec_RefTextBy.f k bt418.1 bt418.2.1 bt418.2.2.1 bt418.2.2.2.1 bt418.2.2.2.2.1 bt418.2.2.2.2.2).bind fun t428 => (laws_FnAddresses.j0 k l0 bt418.2.2.2.2.1 bt418.2.2.2.2.2 t425 t426 (t426.toList != t428.toList) bt418.1 bt418.2.1 bt418.2.2.1 bt418.2.2.2.1)) else (laws_FnAddresses.j0 k l0 bt418.2.2.2.2.1 bt418.2.2.2.2.2 t425 t426 true bt418.1 bt418.2.1 bt418.2.2.1 bt418.2.2.2.1))))))) = some r := h
  by_cases c2 : (l0.length : Int) > 1048576
  · rw [if_pos c2] at H
    exact laws_FnAddresses.calls_p1 k A0 c0 l0 r w hr0 hc0 hT c2 H
  · rw [if_neg c2] at H
    replace H := Option.bind_eq_some_iff.mp H
    obtain ⟨⟨t418, t419, t420, t421, t422, t423⟩, A30, H⟩ := H
    replace H : ((impl_RefText.f k t418 t419 t420 t421).bind fun t425 => ((impl_RefTextBy.f k t418 t419 t420 t421 t422 t423).bind fun t426 => ((spec_RefText.f k t418 t419 t420 t421).bind fun t427 => (if t425.toList = t427.toList then ((spec_RefTextBy.f k t418 t419 t420 t421 t422 t423).bind fun t428 => (laws_FnAddresses.j0 k l0 t422 t423 t425 t426 (t426.toList != t428.toList) t418 t419 t420 t421)) else (laws_FnAddresses.j0 k l0 t422 t423 t425 t426 true t418 t419 t420 t421))))) = some r := H
    have A3 := Aside0.mk A30
    clear A30
    replace H := Option.bind_eq_some_iff.mp H
    obtain ⟨t425, A40, H⟩ := H
    replace H : ((impl_RefTextBy.f k t418 t419 t420 t421 t422 t423).bind fun t426 => ((spec_RefText.f k t418 t419 t420 t421).bind fun t427 => (if t425.toList = t427.toList then ((spec_RefTextBy.f k t418 t419 t420 t421 t422 t423).bind fun t428 => (laws_FnAddresses.j0 k l0 t422 t423 t425 t426 (t426.toList != t428.toList) t418 t419 t420 t421)) else (laws_FnAddresses.j0 k l0 t422 t423 t425 t426 true t418 t419 t420 t421)))) = some r := H
    have A4 := Aside0.mk A40
    clear A40
    replace H := Option.bind_eq_some_iff.mp H
    obtain ⟨t426, A50, H⟩ := H
    replace H : ((spec_RefText.f k t418 t419 t420 t421).bind fun t427 => (if t425.toList = t427.toList then ((spec_RefTextBy.f k t418 t419 t420 t421 t422 t423).bind fun t428 => (laws_FnAddresses.j0 k l0 t422 t423 t425 t426 (t426.toList != t428.toList) t418 t419 t420 t421)) else (laws_FnAddresses.j0 k l0 t422 t423 t425 t426 true t418 t419 t420 t421))) = some r := H
    have A5 := Aside0.mk A50
    clear A50
    exact laws_FnAddresses.calls_p2 k A0 c0 l0 r w hr0 hc0 hT t418 t419 t420 t421 t422 t423 t425 t426 A3 A4 A5 c2 H

end Go.Proofs.YtffamggcjijobaaDoor.PFnAddresses
