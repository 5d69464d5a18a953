/- Functions of the program as Lean functions, and proofs that the Go code comes to their answers: for the law FnExactDiffer; made out of the print by a program of mine (compact.py). No conditions but each theorem's own. -/
import Derived.Test.YtojfkjggpdlngaaMFnExactDiffera0
import Derived.Test.YtojfkjggpdlngaaMFnExactDiffera2
import Derived.Test.YtojfkjggpdlngaaMFnExactDiffera3
import Derived.Test.YtojfkjggpdlngaaMFnExactDiffera6
import Derived.Test.YtojfkjggpdlngaaMFnExactDiffera7
import Derived.Test.YtojfkjggpdlngaaMFnExactDiffera8
namespace Go.Proofs.Ytojfkjggpdlngaa.PFnExactDiffer
open List (map_toArray map_cons map_nil length_drop length_take set_cons_zero set_cons_succ setIfInBounds_toArray)
open Go.RowKit Go.Proofs.YtojfkjggpdlngaaW.PrintWords Go.Proofs.YtojfkjggpdlngaaW.PrintLast Go.Proofs.YtojfkjggpdlngaaW.PrintMore
attribute [local go_sem] max2_int min2_int max_two min_two max_three min_three max_four min_four   -- for this text's walks alone
set_option linter.unusedVariables false
set_option linter.unusedSimpArgs false

attribute [local go_sem high] eqA107
set_option maxHeartbeats 100000000 in
set_option maxRecDepth 100000 in
theorem laws_heldShownS.calls (k : Nat) (A0 : Option Addr) (c0 : Nat) (l0 : List (S107)) (a1 : Int) (r : Int) (w : World) (hr0 : Kd.C k107 w A0 l0.length l0) (hc0 : l0.length ≤ c0) (h : laws_heldShownS.f k l0 a1 = some r) :
  Calls Try.prog 37 #[.slice A0 l0.length c0, .int .i64 a1] w fun e w' => e = .returned (.int .i64 r) ∧ Below w.heap.size w w' := by
 have H : (laws_heldShownS.l0 k l0 a1 0) = some r := h
 exact laws_heldShownS.calls_p1 k A0 c0 l0 a1 r w hr0 hc0 H

/-! ### laws_FnExactDiffer: function 7 -/

def laws_FnExactDiffer.j0 : Nat → List (S101) → List (S101) → List (S107) → List (S107) → Bool → Option (Bool)
 | 0, _, _, _, _, _ => none
 | k + 1, x0, x1, x6, x9, x63 => if x63 = true then (some false) else ((laws_markShownS.f k x9 1).bind fun bt272 => ((laws_heldShownS.f k bt272.2 1).bind fun t274 => (if t274 < 0 then (some false) else (if t274 = bt272.1 then ((laws_toShownS.f k x0).bind fun t275 => ((laws_toShownS.f k x1).bind fun t278 => ((impl_Differ.f k t275 t278).bind fun t281 => ((laws_eqShownS.f k t281 x6).bind fun t284 => (if t284 = true then ((laws_heldShownS.f k bt272.2 1).bind fun t285 => (if t285 < 0 then (some false) else (if t285 = bt272.1 then (some true) else (some false)))) else (some false)))))) else (some false)))))

def laws_FnExactDiffer.f (k : Nat) (l0 : List (S101)) (l1 : List (S101)) : Option (Bool) := (laws_szShownS.f k l0 1048576).bind fun t238 => (if t238 < 0 then (some true) else ((laws_szShownS.f k l1 t238).bind fun t239 => (if t239 < 0 then (some true) else ((laws_toShownS.f k l0).bind fun t240 => ((laws_toShownS.f k l1).bind fun t243 => ((spec_Differ.f k t240 t243).bind fun t246 => ((laws_toShownS.f k l0).bind fun t249 => ((laws_toShownS.f k l1).bind fun t252 => ((impl_Differ.f k t249 t252).bind fun t255 => ((laws_eqShownS.f k t255 t246).bind fun t258 => (if t258 = true then ((laws_toShownS.f k l0).bind fun t259 => ((laws_eqShownS.f k t249 t259).bind fun t262 => (if t262 = true then ((laws_toShownS.f k l1).bind fun t263 => ((laws_eqShownS.f k t252 t263).bind fun t266 => (if t266 = true then ((laws_markShownS.f k t249 1).bind fun bt267 => ((laws_markShownS.f k t252 bt267.1).bind fun bt269 => (if bt269.1 < 0 then (laws_FnExactDiffer.j0 k l0 l1 t246 t255 true) else ((laws_eqShownS.f k t255 t246).bind fun t271 => (laws_FnExactDiffer.j0 k l0 l1 t246 t255 (!t271)))))) else (some false)))) else (some false)))) else (some false))))))))))))

theorem laws_FnExactDiffer.mono_l : ∀ k, (∀ y0 y1 y2 y3 y4, LeO (laws_FnExactDiffer.j0 k y0 y1 y2 y3 y4) (laws_FnExactDiffer.j0 (k + 1) y0 y1 y2 y3 y4))
 | 0 => fun _ _ _ _ _ r h => by simp [laws_FnExactDiffer.j0] at h
 | k + 1 => by
  have ih0 := laws_FnExactDiffer.mono_l k
  ·intro y0 y1 y2 y3 y4
   unfold laws_FnExactDiffer.j0
   repeat' first
   | (with_reducible exact ih0 _ _ _ _ _)
   | (with_reducible exact impl_Differ.mono _ _ _)
   | (with_reducible exact laws_eqShownS.mono _ _ _)
   | (with_reducible exact laws_heldShownS.mono _ _ _)
   | (with_reducible exact laws_markShownS.mono _ _ _)
   | (with_reducible exact laws_szShownS.mono _ _ _)
   | (with_reducible exact laws_toShownS.mono _ _)
   | (with_reducible exact spec_Differ.mono _ _ _)
   | (with_reducible exact LeO.refl _)
   | (with_reducible exact LeO.none _)
   | (with_reducible refine LeO.ite ?_ ?_)
   | (with_reducible refine LeO.bind ?_ (fun _ => ?_))
   | exact ih0 _ _ _ _ _
   | exact impl_Differ.mono _ _ _
   | exact laws_eqShownS.mono _ _ _
   | exact laws_heldShownS.mono _ _ _
   | exact laws_markShownS.mono _ _ _
   | exact laws_szShownS.mono _ _ _
   | exact laws_toShownS.mono _ _
   | exact spec_Differ.mono _ _ _
   | exact LeO.none _
   | refine LeO.ite ?_ ?_
   | refine LeO.bind ?_ (fun _ => ?_)

theorem laws_FnExactDiffer.mono : ∀ a0 a1 k, LeO (laws_FnExactDiffer.f k a0 a1) (laws_FnExactDiffer.f (k + 1) a0 a1) := by
 intro a0 a1 k
 have ih0 := laws_FnExactDiffer.mono_l k
 unfold laws_FnExactDiffer.f
 repeat' first
   | (with_reducible exact ih0 _ _ _ _ _)
   | (with_reducible exact impl_Differ.mono _ _ _)
   | (with_reducible exact laws_eqShownS.mono _ _ _)
   | (with_reducible exact laws_heldShownS.mono _ _ _)
   | (with_reducible exact laws_markShownS.mono _ _ _)
   | (with_reducible exact laws_szShownS.mono _ _ _)
   | (with_reducible exact laws_toShownS.mono _ _)
   | (with_reducible exact spec_Differ.mono _ _ _)
   | (with_reducible exact LeO.refl _)
   | (with_reducible exact LeO.none _)
   | (with_reducible refine LeO.ite ?_ ?_)
   | (with_reducible refine LeO.bind ?_ (fun _ => ?_))
   | exact ih0 _ _ _ _ _
   | exact impl_Differ.mono _ _ _
   | exact laws_eqShownS.mono _ _ _
   | exact laws_heldShownS.mono _ _ _
   | exact laws_markShownS.mono _ _ _
   | exact laws_szShownS.mono _ _ _
   | exact laws_toShownS.mono _ _
   | exact spec_Differ.mono _ _ _
   | exact LeO.none _
   | refine LeO.ite ?_ ?_
   | refine LeO.bind ?_ (fun _ => ?_)

set_option maxHeartbeats 100000000 in
set_option maxRecDepth 100000 in
theorem laws_FnExactDiffer.calls_p1 (k : Nat) (A0 : Option Addr) (c0 : Nat) (l0 : List (S101)) (A1 : Option Addr) (c1 : Nat) (l1 : List (S101)) (r : Bool) (w : World) (hr0 : Kd.C k101 w A0 l0.length l0) (hc0 : l0.length ≤ c0) (hr1 : Kd.C k101 w A1 l1.length l1) (hc1 : l1.length ≤ c1) (t238 : _) (A3 : Aside0 ((laws_szShownS.f k l0 1048576) = some t238)) (c4 : t238 < 0) (H : (some true) = some r) :
  Calls Try.prog 7 #[.slice A0 l0.length c0, .slice A1 l1.length c1] w fun e w' => e = .returned (.bool r) ∧ Below w.heap.size w w' := by
 have HR0 := Aside0.mk hr0
 have HC0 := Aside0.mk hc0
 clear hr0 hc0
 have HR1 := Aside0.mk hr1
 have HC1 := Aside0.mk hc1
 clear hr1 hc1
 have HB := Aside0.mk (Below.refl w.heap.size w)
 have c4b0 : decide (t238 < 0) = true := decide_eq_true c4
 clear c4
 obtain rfl := Option.some.inj H
 go_enter Try.func7, Try.ntmps7
 go_wp2_with (first | ((with_reducible refine z9q (f := 31) rfl ?_); refine z15q (some 16) rfl rfl Try.func31 (by kernel_rfl) rfl #[.slice A0 l0.length c0, .int .i64 1048576] rfl (by (try simp only [map_toArray, map_cons, map_nil]); first | done | rfl | (simp only [length_drop, length_take]; rfl)) ?_; (with_reducible refine (laws_szShownS.calls k _ _ l0 1048576 t238 _ ?side1 ?side2 A3.out).mono ?_); (case side1 => repeat (first | exact HR0.out | (with_reducible refine Kd.C_alloc ?_ _) | (with_reducible refine Kd.C_drewN ?_ _) | (with_reducible refine Kd.C_drew ?_))); (case side2 => exact HC0.out); rintro e w5 ⟨rfl, hb⟩; refine ⟨_, rfl, ?_⟩; have n0_ := Aside0.mk (z6q (ibh HB.out) hb); clear HB; have HB := n0_; clear n0_; (try clear hb); (try clear hb2); (try clear hk); (try clear hi)))
 go_ret
 exact ⟨by first | rfl | (simp [errW_none, errW_some] <;> rfl) | (simp [*, errW_none, errW_some] <;> rfl), by repeat (first | (with_reducible first | exact HB.out | apply z7q | apply z3q | apply z4q) | exact HB.out)⟩

set_option maxHeartbeats 100000000 in
set_option maxRecDepth 100000 in
theorem laws_FnExactDiffer.calls_p2 (k : Nat) (A0 : Option Addr) (c0 : Nat) (l0 : List (S101)) (A1 : Option Addr) (c1 : Nat) (l1 : List (S101)) (r : Bool) (w : World) (hr0 : Kd.C k101 w A0 l0.length l0) (hc0 : l0.length ≤ c0) (hr1 : Kd.C k101 w A1 l1.length l1) (hc1 : l1.length ≤ c1) (t238 : _) (t239 : _) (A3 : Aside0 ((laws_szShownS.f k l0 1048576) = some t238)) (A6 : Aside0 ((laws_szShownS.f k l1 t238) = some t239)) (c4 : ¬ (t238 < 0)) (c7 : t239 < 0) (H : (some true) = some r) :
  Calls Try.prog 7 #[.slice A0 l0.length c0, .slice A1 l1.length c1] w fun e w' => e = .returned (.bool r) ∧ Below w.heap.size w w' := by
 have HR0 := Aside0.mk hr0
 have HC0 := Aside0.mk hc0
 clear hr0 hc0
 have HR1 := Aside0.mk hr1
 have HC1 := Aside0.mk hc1
 clear hr1 hc1
 have HB := Aside0.mk (Below.refl w.heap.size w)
 have c4b0 : decide (t238 < 0) = false := decide_eq_false c4
 clear c4
 have c7b0 : decide (t239 < 0) = true := decide_eq_true c7
 clear c7
 obtain rfl := Option.some.inj H
 go_enter Try.func7, Try.ntmps7
 go_wp2_with (first | ((with_reducible refine z9q (f := 31) rfl ?_); refine z15q (some 16) rfl rfl Try.func31 (by kernel_rfl) rfl #[.slice A0 l0.length c0, .int .i64 1048576] rfl (by (try simp only [map_toArray, map_cons, map_nil]); first | done | rfl | (simp only [length_drop, length_take]; rfl)) ?_; (with_reducible refine (laws_szShownS.calls k _ _ l0 1048576 t238 _ ?side1 ?side2 A3.out).mono ?_); (case side1 => repeat (first | exact HR0.out | (with_reducible refine Kd.C_alloc ?_ _) | (with_reducible refine Kd.C_drewN ?_ _) | (with_reducible refine Kd.C_drew ?_))); (case side2 => exact HC0.out); rintro e w8 ⟨rfl, hb⟩; refine ⟨_, rfl, ?_⟩; have n0_ := Aside0.mk (z6q (ibh HB.out) hb); clear HB; have HB := n0_; clear n0_; (try clear hb); (try clear hb2); (try clear hk); (try clear hi)) | ((with_reducible refine z9q (f := 31) rfl ?_); refine z15q (some 21) rfl rfl Try.func31 (by kernel_rfl) rfl #[.slice A1 l1.length c1, .int .i64 t238] rfl (by (try simp only [map_toArray, map_cons, map_nil]); first | done | rfl | (simp only [length_drop, length_take]; rfl)) ?_; (with_reducible refine (laws_szShownS.calls k _ _ l1 t238 t239 _ ?side1 ?side2 A6.out).mono ?_); (case side1 => exact Kd.C_below HR1.out ib); (case side2 => exact HC1.out); rintro e w9 ⟨rfl, hb⟩; refine ⟨_, rfl, ?_⟩; have n0_ := Aside0.mk (z6q (ibh HB.out) hb); clear HB; have HB := n0_; clear n0_; (try clear hb); (try clear hb2); (try clear hk); (try clear hi)))
 go_ret
 exact ⟨by first | rfl | (simp [errW_none, errW_some] <;> rfl) | (simp [*, errW_none, errW_some] <;> rfl), by repeat (first | (with_reducible first | exact HB.out | apply z7q | apply z3q | apply z4q) | exact HB.out)⟩

end Go.Proofs.Ytojfkjggpdlngaa.PFnExactDiffer
