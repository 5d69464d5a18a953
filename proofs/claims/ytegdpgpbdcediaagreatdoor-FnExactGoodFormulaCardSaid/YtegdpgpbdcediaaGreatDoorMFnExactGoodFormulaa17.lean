/- Functions of the program as Lean functions, and proofs that the Go code comes to their answers: for the law FnExactGoodFormula; made out of the print by a program of mine (compact.py). No conditions but each theorem's own. -/
import Derived.Test.YtegdpgpbdcediaaGreatDoorMFnExactGoodFormulaa0
import Derived.Test.YtegdpgpbdcediaaGreatDoorMFnExactGoodFormulaa10
import Derived.Test.YtegdpgpbdcediaaGreatDoorMFnExactGoodFormulaa11
import Derived.Test.YtegdpgpbdcediaaGreatDoorMFnExactGoodFormulaa15
import Derived.Test.YtegdpgpbdcediaaGreatDoorMFnExactGoodFormulaa16
namespace Go.Proofs.YtegdpgpbdcediaaGreatDoor.PFnExactGoodFormula
open List (map_toArray map_cons map_nil length_drop length_take set_cons_zero set_cons_succ setIfInBounds_toArray)
open Go.RowKit Go.Proofs.YtegdpgpbdcediaaGreatDoorW.PrintWords Go.Proofs.YtegdpgpbdcediaaGreatDoorW.PrintLast Go.Proofs.YtegdpgpbdcediaaGreatDoorW.PrintMore
attribute [local go_sem] max2_int min2_int max_two min_two max_three min_three max_four min_four   -- for this text's walks alone
set_option linter.unusedVariables false
set_option linter.unusedSimpArgs false

attribute [local go_sem high] eqA47 eqA65
set_option maxHeartbeats 8000000 in
set_option maxRecDepth 100000 in
theorem laws_FnExactGoodFormula.calls_p2 (k : Nat) (A0 : Option Addr) (c0 : Nat) (l0 : List (S64)) (r : Bool) (w : World) (hr0 : Kd.C k64 w A0 l0.length l0) (hc0 : l0.length ≤ c0) (hT : Tab w) (t472 : _) (t473 : _) (t476 : _) (t477 : _) (t480 : _) (t481 : _) (t484 : _) (A2 : Aside0 ((laws_szNodeS.f k l0 1048576) = some t472)) (A5 : Aside0 ((laws_toNodeS.f k l0) = some t473)) (A6 : Aside0 ((spec_GoodFormula.f k t473) = some t476)) (A7 : Aside0 ((laws_toNodeS.f k l0) = some t477)) (A8 : Aside0 ((impl_GoodFormula.f k t477) = some t480)) (A17 : Aside0 ((laws_toNodeS.f k l0) = some t481)) (A18 : Aside0 ((laws_eqNodeS.f k t477 t481) = some t484)) (c3 : ¬ (t472 < 0)) (c9 : ¬ ((t480 != t476) = true)) (c19 : t484 = true) (H : (if t484 = true then (some true) else (some false)) = some r) :
  Calls Tryz.prog 3 #[.slice A0 l0.length c0] w fun e w' => e = .returned (.bool r) ∧ Below w.heap.size w w' := by
 have HR0 := Aside0.mk hr0
 have HC0 := Aside0.mk hc0
 clear hr0 hc0
 have HB := Aside0.mk (Below.refl w.heap.size w)
 have c3b0 : decide (t472 < 0) = false := decide_eq_false c3
 clear c3
 have c9b0 : (t480 != t476) = false := by simpa using c9
 (try (have c9b1 : decide (t480 = t476) = true := by simpa using c9))
 (try (have c9b2 : (t480 == t476) = true := by simpa using c9))
 clear c9
 subst c19
 have H1 : (some true) = some r := by rw [if_pos rfl] at H; exact H
 clear H
 have H := H1
 clear H1
 obtain rfl := Option.some.inj H
 go_enter Tryz.func3, Tryz.ntmps3
 go_wp2_with (first | ((with_reducible refine z14q (f := 9) rfl ?_); refine z20q (some 9) rfl rfl Tryz.func9 (by kernel_rfl) rfl #[.slice A0 l0.length c0, .int .i64 1048576] rfl (by (try simp only [map_toArray, map_cons, map_nil]); first | done | rfl | (simp only [length_drop, length_take]; rfl)) ?_; (with_reducible refine (laws_szNodeS.calls k _ _ l0 1048576 t472 _ ?side1 ?side2 A2.out).mono ?_); (case side1 => repeat (first | exact HR0.out | (with_reducible refine Kd.C_alloc ?_ _) | (with_reducible refine Kd.C_drewN ?_ _) | (with_reducible refine Kd.C_drew ?_))); (case side2 => exact HC0.out); rintro e w20 ⟨rfl, hb⟩; refine ⟨_, rfl, ?_⟩; have n0_ := Aside0.mk (z6q (ibh HB.out) hb); clear HB; have HB := n0_; clear n0_; (try clear hb); (try clear hb2); (try clear hk); (try clear hi)) | ((with_reducible refine z14q (f := 11) rfl ?_); refine z20q (some 13) rfl rfl Tryz.func11 (by kernel_rfl) rfl #[.slice A0 l0.length c0] rfl (by (try simp only [map_toArray, map_cons, map_nil]); first | done | rfl | (simp only [length_drop, length_take]; rfl)) ?_; (with_reducible refine (laws_toNodeS.calls k _ _ l0 t473 _ ?side1 ?side2 A5.out).mono ?_); (case side1 => exact Kd.C_below HR0.out ib); (case side2 => exact HC0.out); rintro e w21 ⟨v474, rfl, ho0, hb⟩; refine ⟨_, rfl, ?_⟩; have n0_ := Aside0.mk (Kd.R_lower ho0 (z7q (ibh HB.out))); have n1_ := Aside0.mk (z6q (ibh HB.out) hb); clear HB; have HO475 := n0_; have HB := n1_; clear n0_ n1_; (try clear hb); (try clear hb2); (try clear hk); (try clear hi); (try clear ho0); obtain ⟨Ao22, co22, eo22⟩ := Kd.R_slice HO475.out; subst eo22) | ((with_reducible refine z14q (f := 10) rfl ?_); refine z20q (some 14) rfl rfl Tryz.func10 (by kernel_rfl) rfl #[.slice Ao22 t473.length co22] rfl (by (try simp only [map_toArray, map_cons, map_nil]); first | done | rfl | (simp only [length_drop, length_take]; rfl)) ?_; (with_reducible refine (spec_GoodFormula.calls k _ _ t473 t476 _ ?side1 ?side2 A6.out).mono ?_); (case side1 => repeat (first | exact (Kd.R_reads' HO475.out).2.2 | (with_reducible refine Kd.C_alloc ?_ _) | (with_reducible refine Kd.C_drewN ?_ _) | (with_reducible refine Kd.C_drew ?_))); (case side2 => exact (Kd.R_reads' HO475.out).2.1); rintro e w23 ⟨rfl, hb⟩; refine ⟨_, rfl, ?_⟩; have n0_ := Aside0.mk (Kd.R_below (ro HO475.out) hb); have n1_ := Aside0.mk (z6q (ibh HB.out) hb); clear HO475; clear HB; have HO475 := n0_; have HB := n1_; clear n0_ n1_; (try clear hb); (try clear hb2); (try clear hk); (try clear hi)) | ((with_reducible refine z14q (f := 11) rfl ?_); refine z20q (some 16) rfl rfl Tryz.func11 (by kernel_rfl) rfl #[.slice A0 l0.length c0] rfl (by (try simp only [map_toArray, map_cons, map_nil]); first | done | rfl | (simp only [length_drop, length_take]; rfl)) ?_; (with_reducible refine (laws_toNodeS.calls k _ _ l0 t477 _ ?side1 ?side2 A7.out).mono ?_); (case side1 => exact Kd.C_below HR0.out ib); (case side2 => exact HC0.out); rintro e w24 ⟨v478, rfl, ho0, hb⟩; refine ⟨_, rfl, ?_⟩; have n0_ := Aside0.mk (Kd.R_elder' (ro HO475.out) (Kd.R_base ho0) hb); have n1_ := Aside0.mk (Kd.R_lower (Kd.R_new' ho0 (Kd.R_lt (ro HO475.out))) (z7q (ibh HB.out))); have n2_ := Aside0.mk (z6q (ibh HB.out) hb); clear HO475; clear HB; have HO475 := n0_; have HO479 := n1_; have HB := n2_; clear n0_ n1_ n2_; (try clear hb); (try clear hb2); (try clear hk); (try clear hi); (try clear ho0); obtain ⟨Ao25, co25, eo25⟩ := Kd.R_slice HO479.out; subst eo25) | ((with_reducible refine z14q (f := 12) rfl ?_); refine z20q (some 18) rfl rfl Tryz.func12 (by kernel_rfl) rfl #[.slice Ao25 t477.length co25] rfl (by (try simp only [map_toArray, map_cons, map_nil]); first | done | rfl | (simp only [length_drop, length_take]; rfl)) ?_; (with_reducible refine (impl_GoodFormula.calls k _ _ t477 t480 _ ?side1 ?side2 (hT.below ib) A8.out).mono ?_); (case side1 => repeat (first | exact (Kd.R_reads' HO479.out).2.2 | (with_reducible refine Kd.C_alloc ?_ _) | (with_reducible refine Kd.C_drewN ?_ _) | (with_reducible refine Kd.C_drew ?_))); (case side2 => exact (Kd.R_reads' HO479.out).2.1); rintro e w26 ⟨rfl, hb⟩; refine ⟨_, rfl, ?_⟩; have n0_ := Aside0.mk (Kd.R_below (ro HO475.out) hb); have n1_ := Aside0.mk (Kd.R_below (ro HO479.out) hb); have n2_ := Aside0.mk (z6q (ibh HB.out) hb); clear HO475; clear HO479; clear HB; have HO475 := n0_; have HO479 := n1_; have HB := n2_; clear n0_ n1_ n2_; (try clear hb); (try clear hb2); (try clear hk); (try clear hi)) | ((with_reducible refine z14q (f := 11) rfl ?_); refine z20q (some 24) rfl rfl Tryz.func11 (by kernel_rfl) rfl #[.slice A0 l0.length c0] rfl (by (try simp only [map_toArray, map_cons, map_nil]); first | done | rfl | (simp only [length_drop, length_take]; rfl)) ?_; (with_reducible refine (laws_toNodeS.calls k _ _ l0 t481 _ ?side1 ?side2 A17.out).mono ?_); (case side1 => exact Kd.C_below HR0.out ib); (case side2 => exact HC0.out); rintro e w27 ⟨v482, rfl, ho0, hb⟩; refine ⟨_, rfl, ?_⟩; have n0_ := Aside0.mk (Kd.R_elder' (ro HO475.out) (Kd.R_base ho0) hb); have n1_ := Aside0.mk (Kd.R_elder' (ro HO479.out) (Kd.R_base ho0) hb); have n2_ := Aside0.mk (Kd.R_lower (Kd.R_new' (Kd.R_new' ho0 (Kd.R_lt (ro HO475.out))) (Kd.R_lt (ro HO479.out))) (z7q (ibh HB.out))); have n3_ := Aside0.mk (z6q (ibh HB.out) hb); clear HO475; clear HO479; clear HB; have HO475 := n0_; have HO479 := n1_; have HO483 := n2_; have HB := n3_; clear n0_ n1_ n2_ n3_; (try clear hb); (try clear hb2); (try clear hk); (try clear hi); (try clear ho0); obtain ⟨Ao28, co28, eo28⟩ := Kd.R_slice HO483.out; subst eo28) | ((with_reducible refine z14q (f := 13) rfl ?_); refine z20q (some 25) rfl rfl Tryz.func13 (by kernel_rfl) rfl #[.slice Ao25 t477.length co25, .slice Ao28 t481.length co28] rfl (by (try simp only [map_toArray, map_cons, map_nil]); first | done | rfl | (simp only [length_drop, length_take]; rfl)) ?_; (with_reducible refine (laws_eqNodeS.calls k _ _ t477 _ _ t481 true _ ?side1 ?side2 ?side3 ?side4 A18.out).mono ?_); (case side1 => repeat (first | exact (Kd.R_reads' HO479.out).2.2 | (with_reducible refine Kd.C_alloc ?_ _) | (with_reducible refine Kd.C_drewN ?_ _) | (with_reducible refine Kd.C_drew ?_))); (case side2 => exact (Kd.R_reads' HO479.out).2.1); (case side3 => repeat (first | exact (Kd.R_reads' HO483.out).2.2 | (with_reducible refine Kd.C_alloc ?_ _) | (with_reducible refine Kd.C_drewN ?_ _) | (with_reducible refine Kd.C_drew ?_))); (case side4 => exact (Kd.R_reads' HO483.out).2.1); rintro e w29 ⟨rfl, hb⟩; refine ⟨_, rfl, ?_⟩; have n0_ := Aside0.mk (Kd.R_below (ro HO475.out) hb); have n1_ := Aside0.mk (Kd.R_below (ro HO479.out) hb); have n2_ := Aside0.mk (Kd.R_below (ro HO483.out) hb); have n3_ := Aside0.mk (z6q (ibh HB.out) hb); clear HO475; clear HO479; clear HO483; clear HB; have HO475 := n0_; have HO479 := n1_; have HO483 := n2_; have HB := n3_; clear n0_ n1_ n2_ n3_; (try clear hb); (try clear hb2); (try clear hk); (try clear hi)))
 go_ret
 exact ⟨by first | rfl | (simp [errW_none, errW_some] <;> rfl) | (simp [*, errW_none, errW_some] <;> rfl), by repeat (first | (with_reducible first | exact HB.out | apply z2q | apply z3q | apply z4q) | exact HB.out)⟩

set_option maxHeartbeats 8000000 in
set_option maxRecDepth 100000 in
theorem laws_FnExactGoodFormula.calls_p3 (k : Nat) (A0 : Option Addr) (c0 : Nat) (l0 : List (S64)) (r : Bool) (w : World) (hr0 : Kd.C k64 w A0 l0.length l0) (hc0 : l0.length ≤ c0) (hT : Tab w) (t472 : _) (t473 : _) (t476 : _) (t477 : _) (t480 : _) (t481 : _) (t484 : _) (A2 : Aside0 ((laws_szNodeS.f k l0 1048576) = some t472)) (A5 : Aside0 ((laws_toNodeS.f k l0) = some t473)) (A6 : Aside0 ((spec_GoodFormula.f k t473) = some t476)) (A7 : Aside0 ((laws_toNodeS.f k l0) = some t477)) (A8 : Aside0 ((impl_GoodFormula.f k t477) = some t480)) (A17 : Aside0 ((laws_toNodeS.f k l0) = some t481)) (A18 : Aside0 ((laws_eqNodeS.f k t477 t481) = some t484)) (c3 : ¬ (t472 < 0)) (c9 : ¬ ((t480 != t476) = true)) (c19 : ¬ (t484 = true)) (H : (if t484 = true then (some true) else (some false)) = some r) :
  Calls Tryz.prog 3 #[.slice A0 l0.length c0] w fun e w' => e = .returned (.bool r) ∧ Below w.heap.size w w' := by
 have HR0 := Aside0.mk hr0
 have HC0 := Aside0.mk hc0
 clear hr0 hc0
 have HB := Aside0.mk (Below.refl w.heap.size w)
 have c3b0 : decide (t472 < 0) = false := decide_eq_false c3
 clear c3
 have c9b0 : (t480 != t476) = false := by simpa using c9
 (try (have c9b1 : decide (t480 = t476) = true := by simpa using c9))
 (try (have c9b2 : (t480 == t476) = true := by simpa using c9))
 clear c9
 replace c19 := Bool.eq_false_iff.mpr c19
 subst c19
 have H1 : (some false) = some r := by rw [if_neg (show ¬ (false = true) by decide)] at H; exact H
 clear H
 have H := H1
 clear H1
 obtain rfl := Option.some.inj H
 go_enter Tryz.func3, Tryz.ntmps3
 go_wp2_with (first | ((with_reducible refine z14q (f := 9) rfl ?_); refine z20q (some 9) rfl rfl Tryz.func9 (by kernel_rfl) rfl #[.slice A0 l0.length c0, .int .i64 1048576] rfl (by (try simp only [map_toArray, map_cons, map_nil]); first | done | rfl | (simp only [length_drop, length_take]; rfl)) ?_; (with_reducible refine (laws_szNodeS.calls k _ _ l0 1048576 t472 _ ?side1 ?side2 A2.out).mono ?_); (case side1 => repeat (first | exact HR0.out | (with_reducible refine Kd.C_alloc ?_ _) | (with_reducible refine Kd.C_drewN ?_ _) | (with_reducible refine Kd.C_drew ?_))); (case side2 => exact HC0.out); rintro e w30 ⟨rfl, hb⟩; refine ⟨_, rfl, ?_⟩; have n0_ := Aside0.mk (z6q (ibh HB.out) hb); clear HB; have HB := n0_; clear n0_; (try clear hb); (try clear hb2); (try clear hk); (try clear hi)) | ((with_reducible refine z14q (f := 11) rfl ?_); refine z20q (some 13) rfl rfl Tryz.func11 (by kernel_rfl) rfl #[.slice A0 l0.length c0] rfl (by (try simp only [map_toArray, map_cons, map_nil]); first | done | rfl | (simp only [length_drop, length_take]; rfl)) ?_; (with_reducible refine (laws_toNodeS.calls k _ _ l0 t473 _ ?side1 ?side2 A5.out).mono ?_); (case side1 => exact Kd.C_below HR0.out ib); (case side2 => exact HC0.out); rintro e w31 ⟨v474, rfl, ho0, hb⟩; refine ⟨_, rfl, ?_⟩; have n0_ := Aside0.mk (Kd.R_lower ho0 (z7q (ibh HB.out))); have n1_ := Aside0.mk (z6q (ibh HB.out) hb); clear HB; have HO475 := n0_; have HB := n1_; clear n0_ n1_; (try clear hb); (try clear hb2); (try clear hk); (try clear hi); (try clear ho0); obtain ⟨Ao32, co32, eo32⟩ := Kd.R_slice HO475.out; subst eo32) | ((with_reducible refine z14q (f := 10) rfl ?_); refine z20q (some 14) rfl rfl Tryz.func10 (by kernel_rfl) rfl #[.slice Ao32 t473.length co32] rfl (by (try simp only [map_toArray, map_cons, map_nil]); first | done | rfl | (simp only [length_drop, length_take]; rfl)) ?_; (with_reducible refine (spec_GoodFormula.calls k _ _ t473 t476 _ ?side1 ?side2 A6.out).mono ?_); (case side1 => repeat (first | exact (Kd.R_reads' HO475.out).2.2 | (with_reducible refine Kd.C_alloc ?_ _) | (with_reducible refine Kd.C_drewN ?_ _) | (with_reducible refine Kd.C_drew ?_))); (case side2 => exact (Kd.R_reads' HO475.out).2.1); rintro e w33 ⟨rfl, hb⟩; refine ⟨_, rfl, ?_⟩; have n0_ := Aside0.mk (Kd.R_below (ro HO475.out) hb); have n1_ := Aside0.mk (z6q (ibh HB.out) hb); clear HO475; clear HB; have HO475 := n0_; have HB := n1_; clear n0_ n1_; (try clear hb); (try clear hb2); (try clear hk); (try clear hi)) | ((with_reducible refine z14q (f := 11) rfl ?_); refine z20q (some 16) rfl rfl Tryz.func11 (by kernel_rfl) rfl #[.slice A0 l0.length c0] rfl (by (try simp only [map_toArray, map_cons, map_nil]); first | done | rfl | (simp only [length_drop, length_take]; rfl)) ?_; (with_reducible refine (laws_toNodeS.calls k _ _ l0 t477 _ ?side1 ?side2 A7.out).mono ?_); (case side1 => exact Kd.C_below HR0.out ib); (case side2 => exact HC0.out); rintro e w34 ⟨v478, rfl, ho0, hb⟩; refine ⟨_, rfl, ?_⟩; have n0_ := Aside0.mk (Kd.R_elder' (ro HO475.out) (Kd.R_base ho0) hb); have n1_ := Aside0.mk (Kd.R_lower (Kd.R_new' ho0 (Kd.R_lt (ro HO475.out))) (z7q (ibh HB.out))); have n2_ := Aside0.mk (z6q (ibh HB.out) hb); clear HO475; clear HB; have HO475 := n0_; have HO479 := n1_; have HB := n2_; clear n0_ n1_ n2_; (try clear hb); (try clear hb2); (try clear hk); (try clear hi); (try clear ho0); obtain ⟨Ao35, co35, eo35⟩ := Kd.R_slice HO479.out; subst eo35) | ((with_reducible refine z14q (f := 12) rfl ?_); refine z20q (some 18) rfl rfl Tryz.func12 (by kernel_rfl) rfl #[.slice Ao35 t477.length co35] rfl (by (try simp only [map_toArray, map_cons, map_nil]); first | done | rfl | (simp only [length_drop, length_take]; rfl)) ?_; (with_reducible refine (impl_GoodFormula.calls k _ _ t477 t480 _ ?side1 ?side2 (hT.below ib) A8.out).mono ?_); (case side1 => repeat (first | exact (Kd.R_reads' HO479.out).2.2 | (with_reducible refine Kd.C_alloc ?_ _) | (with_reducible refine Kd.C_drewN ?_ _) | (with_reducible refine Kd.C_drew ?_))); (case side2 => exact (Kd.R_reads' HO479.out).2.1); rintro e w36 ⟨rfl, hb⟩; refine ⟨_, rfl, ?_⟩; have n0_ := Aside0.mk (Kd.R_below (ro HO475.out) hb); have n1_ := Aside0.mk (Kd.R_below (ro HO479.out) hb); have n2_ := Aside0.mk (z6q (ibh HB.out) hb); clear HO475; clear HO479; clear HB; have HO475 := n0_; have HO479 := n1_; have HB := n2_; clear n0_ n1_ n2_; (try clear hb); (try clear hb2); (try clear hk); (try clear hi)) | ((with_reducible refine z14q (f := 11) rfl ?_); refine z20q (some 24) rfl rfl Tryz.func11 (by kernel_rfl) rfl #[.slice A0 l0.length c0] rfl (by (try simp only [map_toArray, map_cons, map_nil]); first | done | rfl | (simp only [length_drop, length_take]; rfl)) ?_; (with_reducible refine (laws_toNodeS.calls k _ _ l0 t481 _ ?side1 ?side2 A17.out).mono ?_); (case side1 => exact Kd.C_below HR0.out ib); (case side2 => exact HC0.out); rintro e w37 ⟨v482, rfl, ho0, hb⟩; refine ⟨_, rfl, ?_⟩; have n0_ := Aside0.mk (Kd.R_elder' (ro HO475.out) (Kd.R_base ho0) hb); have n1_ := Aside0.mk (Kd.R_elder' (ro HO479.out) (Kd.R_base ho0) hb); have n2_ := Aside0.mk (Kd.R_lower (Kd.R_new' (Kd.R_new' ho0 (Kd.R_lt (ro HO475.out))) (Kd.R_lt (ro HO479.out))) (z7q (ibh HB.out))); have n3_ := Aside0.mk (z6q (ibh HB.out) hb); clear HO475; clear HO479; clear HB; have HO475 := n0_; have HO479 := n1_; have HO483 := n2_; have HB := n3_; clear n0_ n1_ n2_ n3_; (try clear hb); (try clear hb2); (try clear hk); (try clear hi); (try clear ho0); obtain ⟨Ao38, co38, eo38⟩ := Kd.R_slice HO483.out; subst eo38) | ((with_reducible refine z14q (f := 13) rfl ?_); refine z20q (some 25) rfl rfl Tryz.func13 (by kernel_rfl) rfl #[.slice Ao35 t477.length co35, .slice Ao38 t481.length co38] rfl (by (try simp only [map_toArray, map_cons, map_nil]); first | done | rfl | (simp only [length_drop, length_take]; rfl)) ?_; (with_reducible refine (laws_eqNodeS.calls k _ _ t477 _ _ t481 false _ ?side1 ?side2 ?side3 ?side4 A18.out).mono ?_); (case side1 => repeat (first | exact (Kd.R_reads' HO479.out).2.2 | (with_reducible refine Kd.C_alloc ?_ _) | (with_reducible refine Kd.C_drewN ?_ _) | (with_reducible refine Kd.C_drew ?_))); (case side2 => exact (Kd.R_reads' HO479.out).2.1); (case side3 => repeat (first | exact (Kd.R_reads' HO483.out).2.2 | (with_reducible refine Kd.C_alloc ?_ _) | (with_reducible refine Kd.C_drewN ?_ _) | (with_reducible refine Kd.C_drew ?_))); (case side4 => exact (Kd.R_reads' HO483.out).2.1); rintro e w39 ⟨rfl, hb⟩; refine ⟨_, rfl, ?_⟩; have n0_ := Aside0.mk (Kd.R_below (ro HO475.out) hb); have n1_ := Aside0.mk (Kd.R_below (ro HO479.out) hb); have n2_ := Aside0.mk (Kd.R_below (ro HO483.out) hb); have n3_ := Aside0.mk (z6q (ibh HB.out) hb); clear HO475; clear HO479; clear HO483; clear HB; have HO475 := n0_; have HO479 := n1_; have HO483 := n2_; have HB := n3_; clear n0_ n1_ n2_ n3_; (try clear hb); (try clear hb2); (try clear hk); (try clear hi)))
 go_ret
 exact ⟨by first | rfl | (simp [errW_none, errW_some] <;> rfl) | (simp [*, errW_none, errW_some] <;> rfl), by repeat (first | (with_reducible first | exact HB.out | apply z2q | apply z3q | apply z4q) | exact HB.out)⟩

set_option maxHeartbeats 8000000 in
set_option maxRecDepth 100000 in
theorem laws_FnExactGoodFormula.calls (k : Nat) (A0 : Option Addr) (c0 : Nat) (l0 : List (S64)) (r : Bool) (w : World) (hr0 : Kd.C k64 w A0 l0.length l0) (hc0 : l0.length ≤ c0) (hT : Tab w) (h : laws_FnExactGoodFormula.f k l0 = some r) (hr : r = true) :
  Calls Tryz.prog 3 #[.slice A0 l0.length c0] w fun e w' => e = .returned (.bool r) ∧ Below w.heap.size w w' := by
 have H : ((laws_szNodeS.f k l0 1048576).bind fun t472 => (if t472 < 0 then (some true) else ((laws_toNodeS.f k l0).bind fun t473 => ((spec_GoodFormula.f k t473).bind fun t476 => ((laws_toNodeS.f k l0).bind fun t477 => ((impl_GoodFormula.f k t477).bind fun t480 => (if (t480 != t476) = true then (some false) else ((laws_toNodeS.f k l0).bind fun t481 => ((laws_eqNodeS.f k t477 t481).bind fun t484 => (if t484 = true then (some true) else (some false))))))))))) = some r := h
 replace H := Option.bind_eq_some_iff.mp H
 obtain ⟨t472, A20, H⟩ := H
 replace H : (if t472 < 0 then (some true) else ((laws_toNodeS.f k l0).bind fun t473 => ((spec_GoodFormula.f k t473).bind fun t476 => ((laws_toNodeS.f k l0).bind fun t477 => ((impl_GoodFormula.f k t477).bind fun t480 => (if (t480 != t476) = true then (some false) else ((laws_toNodeS.f k l0).bind fun t481 => ((laws_eqNodeS.f k t477 t481).bind fun t484 => (if t484 = true then (some true) else (some false)))))))))) = some r := H
 have A2 := Aside0.mk A20
 clear A20
 by_cases c3 : t472 < 0
 ·rw [if_pos c3] at H
  exact laws_FnExactGoodFormula.calls_p1 k A0 c0 l0 r w hr0 hc0 hT t472 A2 c3 H
 ·rw [if_neg c3] at H
  replace H := Option.bind_eq_some_iff.mp H
  obtain ⟨t473, A50, H⟩ := H
  replace H : ((spec_GoodFormula.f k t473).bind fun t476 => ((laws_toNodeS.f k l0).bind fun t477 => ((impl_GoodFormula.f k t477).bind fun t480 => (if (t480 != t476) = true then (some false) else ((laws_toNodeS.f k l0).bind fun t481 => ((laws_eqNodeS.f k t477 t481).bind fun t484 => (if t484 = true then (some true) else (some false)))))))) = some r := H
  have A5 := Aside0.mk A50
  clear A50
  replace H := Option.bind_eq_some_iff.mp H
  obtain ⟨t476, A60, H⟩ := H
  replace H : ((laws_toNodeS.f k l0).bind fun t477 => ((impl_GoodFormula.f k t477).bind fun t480 => (if (t480 != t476) = true then (some false) else ((laws_toNodeS.f k l0).bind fun t481 => ((laws_eqNodeS.f k t477 t481).bind fun t484 => (if t484 = true then (some true) else (some false))))))) = some r := H
  have A6 := Aside0.mk A60
  clear A60
  replace H := Option.bind_eq_some_iff.mp H
  obtain ⟨t477, A70, H⟩ := H
  replace H : ((impl_GoodFormula.f k t477).bind fun t480 => (if (t480 != t476) = true then (some false) else ((laws_toNodeS.f k l0).bind fun t481 => ((laws_eqNodeS.f k t477 t481).bind fun t484 => (if t484 = true then (some true) else (some false)))))) = some r := H
  have A7 := Aside0.mk A70
  clear A70
  replace H := Option.bind_eq_some_iff.mp H
  obtain ⟨t480, A80, H⟩ := H
  replace H : (if (t480 != t476) = true then (some false) else ((laws_toNodeS.f k l0).bind fun t481 => ((laws_eqNodeS.f k t477 t481).bind fun t484 => (if t484 = true then (some true) else (some false))))) = some r := H
  have A8 := Aside0.mk A80
  clear A80
  by_cases c9 : (t480 != t476) = true
  ·rw [if_pos c9] at H
   exact absurd (Option.some.inj H) (by rw [hr]; decide)
  ·rw [if_neg c9] at H
   replace H := Option.bind_eq_some_iff.mp H
   obtain ⟨t481, A170, H⟩ := H
   replace H : ((laws_eqNodeS.f k t477 t481).bind fun t484 => (if t484 = true then (some true) else (some false))) = some r := H
   have A17 := Aside0.mk A170
   clear A170
   replace H := Option.bind_eq_some_iff.mp H
   obtain ⟨t484, A180, H⟩ := H
   replace H : (if t484 = true then (some true) else (some false)) = some r := H
   have A18 := Aside0.mk A180
   clear A180
   by_cases c19 : t484 = true
   ·exact laws_FnExactGoodFormula.calls_p2 k A0 c0 l0 r w hr0 hc0 hT t472 t473 t476 t477 t480 t481 t484 A2 A5 A6 A7 A8 A17 A18 c3 c9 c19 H
   ·exact laws_FnExactGoodFormula.calls_p3 k A0 c0 l0 r w hr0 hc0 hT t472 t473 t476 t477 t480 t481 t484 A2 A5 A6 A7 A8 A17 A18 c3 c9 c19 H

end Go.Proofs.YtegdpgpbdcediaaGreatDoor.PFnExactGoodFormula
