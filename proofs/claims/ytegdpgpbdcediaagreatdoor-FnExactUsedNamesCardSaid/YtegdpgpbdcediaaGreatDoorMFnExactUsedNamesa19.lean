/- Functions of the program as Lean functions, and proofs that the Go code comes to their answers: for the law FnExactUsedNames; made out of the print by a program of mine (compact.py). No conditions but each theorem's own. -/
import Derived.Test.YtegdpgpbdcediaaGreatDoorMFnExactUsedNamesa0
import Derived.Test.YtegdpgpbdcediaaGreatDoorMFnExactUsedNamesa1
import Derived.Test.YtegdpgpbdcediaaGreatDoorMFnExactUsedNamesa9
import Derived.Test.YtegdpgpbdcediaaGreatDoorMFnExactUsedNamesa10
import Derived.Test.YtegdpgpbdcediaaGreatDoorMFnExactUsedNamesa14
import Derived.Test.YtegdpgpbdcediaaGreatDoorMFnExactUsedNamesa15
import Derived.Test.YtegdpgpbdcediaaGreatDoorMFnExactUsedNamesa17
import Derived.Test.YtegdpgpbdcediaaGreatDoorMFnExactUsedNamesa18
namespace Go.Proofs.YtegdpgpbdcediaaGreatDoor.PFnExactUsedNames
open List (map_toArray map_cons map_nil length_drop length_take set_cons_zero set_cons_succ setIfInBounds_toArray)
open Go.RowKit Go.Proofs.YtegdpgpbdcediaaGreatDoorW.PrintWords Go.Proofs.YtegdpgpbdcediaaGreatDoorW.PrintLast Go.Proofs.YtegdpgpbdcediaaGreatDoorW.PrintMore
attribute [local go_sem] max2_int min2_int max_two min_two max_three min_three max_four min_four   -- for this text's walks alone
set_option linter.unusedVariables false
set_option linter.unusedSimpArgs false

attribute [local go_sem high] eqA47 eqA65
set_option maxHeartbeats 8000000 in
set_option maxRecDepth 100000 in
theorem laws_FnExactUsedNames.calls (k:Nat) (A0:Option Addr) (c0:Nat) (l0:List (S64)) (r:Bool) (w:World) (hr0:Kd.C k64 w A0 l0.length l0) (hc0:l0.length≤c0) (hT:Tab w) (h:laws_FnExactUsedNames.f k l0=some r) (hr:r=true):
  Calls Tryz.prog 4 #[.slice A0 l0.length c0] w fun e w'=>e= .returned (.bool r)∧Below w.heap.size w w':=by
 have H:((laws_szNodeS.f k l0 1048576).bind fun t508=>(if t508<0 then(some true)else((laws_toNodeS.f k l0).bind fun t509=>((spec_UsedNames.f k t509).bind fun t512=>((laws_toNodeS.f k l0).bind fun t515=>((impl_UsedNames.f t515).bind fun t518=>((laws_eqStringS.f k t518 t512).bind fun t521=>(if t521=true then((laws_toNodeS.f k l0).bind fun t522=>((laws_eqNodeS.f k t515 t522).bind fun t525=>(if t525=true then((laws_markNodeS.f k t515 1).bind fun bt526=>(if bt526.1<0 then(laws_FnExactUsedNames.j0 k l0 t512 t518 true)else((laws_eqStringS.f k t518 t512).bind fun t528=>(laws_FnExactUsedNames.j0 k l0 t512 t518 (!t528)))))else(some false))))else(some false)))))))))=some r:=h
 replace H:=Option.bind_eq_some_iff.mp H
 obtain⟨t508,A20,H⟩:=H
 replace H:(if t508<0 then(some true)else((laws_toNodeS.f k l0).bind fun t509=>((spec_UsedNames.f k t509).bind fun t512=>((laws_toNodeS.f k l0).bind fun t515=>((impl_UsedNames.f t515).bind fun t518=>((laws_eqStringS.f k t518 t512).bind fun t521=>(if t521=true then((laws_toNodeS.f k l0).bind fun t522=>((laws_eqNodeS.f k t515 t522).bind fun t525=>(if t525=true then((laws_markNodeS.f k t515 1).bind fun bt526=>(if bt526.1<0 then(laws_FnExactUsedNames.j0 k l0 t512 t518 true)else((laws_eqStringS.f k t518 t512).bind fun t528=>(laws_FnExactUsedNames.j0 k l0 t512 t518 (!t528)))))else(some false))))else(some false))))))))=some r:=H
 have A2:=Aside0.mk A20
 clear A20
 by_cases c3:t508<0
 ·rw [if_pos c3]at H
  exact laws_FnExactUsedNames.calls_p1 k A0 c0 l0 r w hr0 hc0 hT t508 A2 c3 H
 ·rw [if_neg c3]at H
  replace H:=Option.bind_eq_some_iff.mp H
  obtain⟨t509,A50,H⟩:=H
  replace H:((spec_UsedNames.f k t509).bind fun t512=>((laws_toNodeS.f k l0).bind fun t515=>((impl_UsedNames.f t515).bind fun t518=>((laws_eqStringS.f k t518 t512).bind fun t521=>(if t521=true then((laws_toNodeS.f k l0).bind fun t522=>((laws_eqNodeS.f k t515 t522).bind fun t525=>(if t525=true then((laws_markNodeS.f k t515 1).bind fun bt526=>(if bt526.1<0 then(laws_FnExactUsedNames.j0 k l0 t512 t518 true)else((laws_eqStringS.f k t518 t512).bind fun t528=>(laws_FnExactUsedNames.j0 k l0 t512 t518 (!t528)))))else(some false))))else(some false))))))=some r:=H
  have A5:=Aside0.mk A50
  clear A50
  replace H:=Option.bind_eq_some_iff.mp H
  obtain⟨t512,A60,H⟩:=H
  replace H:((laws_toNodeS.f k l0).bind fun t515=>((impl_UsedNames.f t515).bind fun t518=>((laws_eqStringS.f k t518 t512).bind fun t521=>(if t521=true then((laws_toNodeS.f k l0).bind fun t522=>((laws_eqNodeS.f k t515 t522).bind fun t525=>(if t525=true then((laws_markNodeS.f k t515 1).bind fun bt526=>(if bt526.1<0 then(laws_FnExactUsedNames.j0 k l0 t512 t518 true)else((laws_eqStringS.f k t518 t512).bind fun t528=>(laws_FnExactUsedNames.j0 k l0 t512 t518 (!t528)))))else(some false))))else(some false)))))=some r:=H
  have A6:=Aside0.mk A60
  clear A60
  replace H:=Option.bind_eq_some_iff.mp H
  obtain⟨t515,A70,H⟩:=H
  replace H:((impl_UsedNames.f t515).bind fun t518=>((laws_eqStringS.f k t518 t512).bind fun t521=>(if t521=true then((laws_toNodeS.f k l0).bind fun t522=>((laws_eqNodeS.f k t515 t522).bind fun t525=>(if t525=true then((laws_markNodeS.f k t515 1).bind fun bt526=>(if bt526.1<0 then(laws_FnExactUsedNames.j0 k l0 t512 t518 true)else((laws_eqStringS.f k t518 t512).bind fun t528=>(laws_FnExactUsedNames.j0 k l0 t512 t518 (!t528)))))else(some false))))else(some false))))=some r:=H
  have A7:=Aside0.mk A70
  clear A70
  replace H:=Option.bind_eq_some_iff.mp H
  obtain⟨t518,A80,H⟩:=H
  replace H:((laws_eqStringS.f k t518 t512).bind fun t521=>(if t521=true then((laws_toNodeS.f k l0).bind fun t522=>((laws_eqNodeS.f k t515 t522).bind fun t525=>(if t525=true then((laws_markNodeS.f k t515 1).bind fun bt526=>(if bt526.1<0 then(laws_FnExactUsedNames.j0 k l0 t512 t518 true)else((laws_eqStringS.f k t518 t512).bind fun t528=>(laws_FnExactUsedNames.j0 k l0 t512 t518 (!t528)))))else(some false))))else(some false)))=some r:=H
  have A8:=Aside0.mk A80
  clear A80
  replace H:=Option.bind_eq_some_iff.mp H
  obtain⟨t521,A90,H⟩:=H
  replace H:(if t521=true then((laws_toNodeS.f k l0).bind fun t522=>((laws_eqNodeS.f k t515 t522).bind fun t525=>(if t525=true then((laws_markNodeS.f k t515 1).bind fun bt526=>(if bt526.1<0 then(laws_FnExactUsedNames.j0 k l0 t512 t518 true)else((laws_eqStringS.f k t518 t512).bind fun t528=>(laws_FnExactUsedNames.j0 k l0 t512 t518 (!t528)))))else(some false))))else(some false))=some r:=H
  have A9:=Aside0.mk A90
  clear A90
  by_cases c10:t521=true
  ·exact laws_FnExactUsedNames.calls_p2 k A0 c0 l0 r w hr0 hc0 hT t508 t509 t512 t515 t518 t521 A2 A5 A6 A7 A8 A9 c3 c10 H
  ·exact laws_FnExactUsedNames.calls_p3 k A0 c0 l0 r w hr0 hc0 hT t508 t509 t512 t515 t518 t521 A2 A5 A6 A7 A8 A9 c3 c10 H

end Go.Proofs.YtegdpgpbdcediaaGreatDoor.PFnExactUsedNames
