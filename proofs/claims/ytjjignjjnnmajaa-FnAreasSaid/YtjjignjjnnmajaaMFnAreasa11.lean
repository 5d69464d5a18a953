/- Functions of the program as Lean functions, and proofs that the Go code comes to their answers: for the law FnAreas; made out of the print by a program of mine (compact.py). No conditions but each theorem's own. -/
import Derived.Test.YtjjignjjnnmajaaMFnAreasa0
import Derived.Test.YtjjignjjnnmajaaMFnAreasa2
import Derived.Test.YtjjignjjnnmajaaMFnAreasa3
import Derived.Test.YtjjignjjnnmajaaMFnAreasa5
import Derived.Test.YtjjignjjnnmajaaMFnAreasa6
import Derived.Test.YtjjignjjnnmajaaMFnAreasa8
import Derived.Test.YtjjignjjnnmajaaMFnAreasa9
import Derived.Test.YtjjignjjnnmajaaMFnAreasa10
namespace Go.Proofs.Ytjjignjjnnmajaa.PFnAreas
open List (map_toArray map_cons map_nil length_drop length_take set_cons_zero set_cons_succ setIfInBounds_toArray)
open Go.RowKit Go.Proofs.YtjjignjjnnmajaaW.PrintWords Go.Proofs.YtjjignjjnnmajaaW.PrintLast Go.Proofs.YtjjignjjnnmajaaW.PrintMore
attribute [local go_sem] max2_int min2_int max_two min_two max_three min_three max_four min_four   -- for this text's walks alone
set_option linter.unusedVariables false
set_option linter.unusedSimpArgs false

attribute [local go_sem high] eqA26
abbrev bt11_0 : Array Bool := #[false, false, false, false, false, false, false, false, false, false, false, false, false, false, false, false, false, false, false, false, false, false, false, false, false]
abbrev bt11_1 : Array Bool := #[true, false, false, false, false, false, false, false, false, false, false, false, false, false, false, false, false, false, false, false, false, false, false, false, false]
abbrev bt11_2 : Array Bool := #[true, true, false, false, false, false, false, false, false, false, false, false, false, false, false, false, false, false, false, false, false, false, false, false, false]
abbrev bt11_3 : Array Bool := #[true, true, true, false, false, false, false, false, false, false, false, false, false, false, false, false, false, false, false, false, false, false, false, false, false]
abbrev bt11_4 : Array Bool := #[true, true, true, true, false, false, false, false, false, false, false, false, false, false, false, false, false, false, false, false, false, false, false, false, false]
abbrev bt11_5 : Array Bool := #[true, true, true, true, true, false, false, false, false, false, false, false, false, false, false, false, false, false, false, false, false, false, false, false, false]
abbrev bt11_6 : Array Bool := #[true, true, true, true, true, true, false, false, false, false, false, false, false, false, false, false, false, false, false, false, false, false, false, false, false]
abbrev bt11_7 : Array Bool := #[true, true, true, true, true, true, true, false, false, false, false, false, false, false, false, false, false, false, false, false, false, false, false, false, false]
abbrev bt11_8 : Array Bool := #[true, true, true, true, true, true, true, true, false, false, false, false, false, false, false, false, false, false, false, false, false, false, false, false, false]
abbrev bt11_9 : Array Bool := #[true, true, true, true, true, true, true, true, true, false, false, false, false, false, false, false, false, false, false, false, false, false, false, false, false]
abbrev bt11_10 : Array Bool := #[true, true, true, true, true, true, true, true, true, true, false, false, false, false, false, false, false, false, false, false, false, false, false, false, false]
abbrev bt11_11 : Array Bool := #[true, true, true, true, true, true, true, true, true, true, true, false, false, false, false, false, false, false, false, false, false, false, false, false, false]
abbrev bt11_12 : Array Bool := #[true, true, true, true, true, true, true, true, true, true, true, true, false, false, false, false, false, false, false, false, false, false, false, false, false]
abbrev bt11_13 : Array Bool := #[true, true, true, true, true, true, true, true, true, true, true, true, true, false, false, false, false, false, false, false, false, false, false, false, false]
abbrev bt11_14 : Array Bool := #[true, true, true, true, true, true, true, true, true, true, true, true, true, true, false, false, false, false, false, false, false, false, false, false, false]
abbrev bt11_15 : Array Bool := #[true, true, true, true, true, true, true, true, true, true, true, true, true, true, true, false, false, false, false, false, false, false, false, false, false]
abbrev bt11_16 : Array Bool := #[true, true, true, true, true, true, true, true, true, true, true, true, true, true, true, true, false, false, false, false, false, false, false, false, false]
abbrev bt11_17 : Array Bool := #[true, true, true, true, true, true, true, true, true, true, true, true, true, true, true, true, true, false, false, false, false, false, false, false, false]
abbrev bt11_18 : Array Bool := #[true, true, true, true, true, true, true, true, true, true, true, true, true, true, true, true, true, true, false, false, false, false, false, false, false]
abbrev bt11_19 : Array Bool := #[true, true, true, true, true, true, true, true, true, true, true, true, true, true, true, true, true, true, true, false, false, false, false, false, false]
abbrev bt11_20 : Array Bool := #[true, true, true, true, true, true, true, true, true, true, true, true, true, true, true, true, true, true, true, true, false, false, false, false, false]
abbrev bt11_21 : Array Bool := #[true, true, true, true, true, true, true, true, true, true, true, true, true, true, true, true, true, true, true, true, true, false, false, false, false]
abbrev bt11_22 : Array Bool := #[true, true, true, true, true, true, true, true, true, true, true, true, true, true, true, true, true, true, true, true, true, true, false, false, false]
abbrev bt11_23 : Array Bool := #[true, true, true, true, true, true, true, true, true, true, true, true, true, true, true, true, true, true, true, true, true, true, true, false, false]
abbrev bt11_24 : Array Bool := #[true, true, true, true, true, true, true, true, true, true, true, true, true, true, true, true, true, true, true, true, true, true, true, true, false]
abbrev bt11_25 : Array Bool := #[true, true, true, true, true, true, true, true, true, true, true, true, true, true, true, true, true, true, true, true, true, true, true, true, true]
set_option maxHeartbeats 200000000 in
set_option maxRecDepth 100000 in
theorem laws_FnAreas.calls_p2 (k : Nat) (A0 : Option Addr) (c0 : Nat) (l0 : List Int) (r : Bool) (w : World) (hr0 : Kd.C (Kd.int .u8) w A0 l0.length l0) (hc0 : l0.length ≤ c0) (t479 : _) (t480 : _) (t481 : _) (t482 : _) (t483 : _) (t484 : _) (t485 : _) (t486 : _) (t487 : _) (t488 : _) (t489 : _) (t490 : _) (t491 : _) (t492 : _) (t493 : _) (t494 : _) (t497 : _) (t498 : _) (t499 : _) (t500 : _) (t501 : _) (t502 : _) (t503 : _) (t504 : _) (t505 : _) (t507 : _) (t510 : _) (t513 : _) (A3 : Aside0 ((spec_DrawWithout.f l0) = some (t479, t480, t481, t482, t483, t484, t485, t486, t487, t488, t489, t490, t491, t492, t493, t494))) (A4 : Aside0 ((impl_Meet.f k t479 t480 t481 t482 t483 t484 t485 t486 t487 t488 t489 t490 t491 t492 t493 t494) = some (t497, t498, t499, t500, t501, t502, t503, t504, t505))) (A5 : Aside0 ((impl_Without.f t479 t480 t481 t482 t483 t484 t485 t486 t487 t488 t489 t490 t491 t492 t493 t494) = some t507)) (A6 : Aside0 ((spec_Without.f k t479 t480 t481 t482 t483 t484 t485 t486 t487 t488 t489 t490 t491 t492 t493 t494) = some t510)) (A7 : Aside0 ((laws_zAreas.f k t507 t510) = some t513)) (c2 : ¬ ((l0.length : Int) > 1048576)) (c8 : t513 = true) (H : (if t513 = true then ((spec_GoodArea.f t479 t480 t481 t482 t483 t484 t485 t486).bind fun t514 => (if t514 = true then ((spec_GoodArea.f t487 t488 t489 t490 t491 t492 t493 t494).bind fun t515 => (laws_FnAreas.j0 k t505 t507 (!t515) t479 t480 t481 t482 t483 t484 t485 t486 t487 t488 t489 t490 t491 t492 t493 t494 t497 t498 t499 t500 t501 t502 t503 t504)) else (laws_FnAreas.j0 k t505 t507 true t479 t480 t481 t482 t483 t484 t485 t486 t487 t488 t489 t490 t491 t492 t493 t494 t497 t498 t499 t500 t501 t502 t503 t504))) else (some false)) = some r) (hr : r = true) :
  Calls Try.prog 3 #[.slice A0 l0.length c0] w fun e w' => e = .returned (.bool r) ∧ Below w.heap.size w w' := by
 have hu26 := Try.underlying26
 have HR0 := Aside0.mk hr0
 have HC0 := Aside0.mk hc0
 clear hr0 hc0
 have HB := Aside0.mk (Below.refl w.heap.size w)
 have c2b0 : decide (1048576 < (l0.length : Int)) = false := decide_eq_false c2
 have c2b1 : decide (1048576 < l0.length) = false := decide_eq_false (by omega)
 clear c2
 subst c8
 have H1 : ((spec_GoodArea.f t479 t480 t481 t482 t483 t484 t485 t486).bind fun t514 => (if t514 = true then ((spec_GoodArea.f t487 t488 t489 t490 t491 t492 t493 t494).bind fun t515 => (laws_FnAreas.j0 k t505 t507 (!t515) t479 t480 t481 t482 t483 t484 t485 t486 t487 t488 t489 t490 t491 t492 t493 t494 t497 t498 t499 t500 t501 t502 t503 t504)) else (laws_FnAreas.j0 k t505 t507 true t479 t480 t481 t482 t483 t484 t485 t486 t487 t488 t489 t490 t491 t492 t493 t494 t497 t498 t499 t500 t501 t502 t503 t504))) = some r := by rw [if_pos rfl] at H; exact H
 clear H
 have H := H1
 clear H1
 have HC9 := Aside0.mk H
 clear H
 go_enter Try.func3, Try.ntmps3
 go_upto_region 8 with (first | ((with_reducible refine z15q (f := 4) rfl ?_); refine z23q (some 27) rfl rfl Try.func4 (by kernel_rfl) rfl #[.slice A0 l0.length c0] rfl (by (try simp only [map_toArray, map_cons, map_nil]); first | done | rfl | (simp only [length_drop, length_take]; rfl)) ?_; (with_reducible refine (spec_DrawWithout.calls _ _ l0 t479 t480 t481 t482 t483 t484 t485 t486 t487 t488 t489 t490 t491 t492 t493 t494 _ ?side1 ?side2 A3.out).mono ?_); (case side1 => repeat (first | exact HR0.out | (with_reducible refine Kd.C_alloc ?_ _) | (with_reducible refine Kd.C_drewN ?_ _) | (with_reducible refine Kd.C_drew ?_))); (case side2 => exact HC0.out); rintro e w10 ⟨rfl, hb⟩; refine ⟨_, rfl, ?_⟩; have n0_ := Aside0.mk (z8q (ibh HB.out) hb); clear HB; have HB := n0_; clear n0_; (try clear hb); (try clear hb2); (try clear hk); (try clear hi)) | ((with_reducible refine z22q (N := 3) rfl ?_); (try (refine gate_guard (by rfl) ?_; dsimp only)); refine z20q ?hg (N := 3) ?hd (cs := #[.int .i64 0, .int .i64 0, .bool false, .bool false, .int .i64 0, .int .i64 0, .bool false, .bool false]) (t := 26) ?hr ?_; (case hd => rfl); (case hg => rfl); (case hr => first | (go_simp; done) | (go_simp; rfl)); intro gb495 hg w11 hbox hb; have n0_ := Aside0.mk (z8q (ibh HB.out) hb); have n1_ := Aside0.mk (hbox); have n2_ := Aside0.mk ((by rw [hg]; exact (z13q (ibh HB.out)) : w.heap.size ≤ gb495)); have n3_ := Aside0.mk ((by rw [hg]; exact (z13q (ibh HB.out)) : w.heap.size ≤ gb495)); clear HB; have HB := n0_; have BK495 := n1_; have GW495 := n2_; have GE495 := n3_; clear n0_ n1_ n2_ n3_; clear hb hbox hg) | ((with_reducible refine z22q (N := 4) rfl ?_); (try (refine gate_guard (by rfl) ?_; dsimp only)); refine z20q ?hg (N := 4) ?hd (cs := #[.int .i64 0, .int .i64 0, .bool false, .bool false, .int .i64 0, .int .i64 0, .bool false, .bool false]) (t := 26) ?hr ?_; (case hd => rfl); (case hg => rfl); (case hr => first | (go_simp; done) | (go_simp; rfl)); intro gb496 hg w12 hbox hb; have n0_ := Aside0.mk (z2q (cy BK495.out) hb); have n1_ := Aside0.mk (z8q (ibh HB.out) hb); have n2_ := Aside0.mk (hbox); have n3_ := Aside0.mk ((by rw [hg]; exact (z13q (ibh HB.out)) : w.heap.size ≤ gb496)); have n4_ := Aside0.mk ((by rw [hg]; exact (z13q (ibh HB.out)) : w.heap.size ≤ gb496)); have n5_ := Aside0.mk ((by rw [hg]; exact Nat.ne_of_lt (z14q (cy BK495.out)) : gb495 ≠ gb496)); have n6_ := Aside0.mk ((by rw [hg]; exact Nat.ne_of_gt (z14q (cy BK495.out)) : gb496 ≠ gb495)); clear BK495; clear HB; have BK495 := n0_; have HB := n1_; have BK496 := n2_; have GW496 := n3_; have GE496 := n4_; have NB495_496 := n5_; have NB496_495 := n6_; clear n0_ n1_ n2_ n3_ n4_ n5_ n6_; clear hb hbox hg; have hnb13 := NB495_496.out; have hnc13 := NB496_495.out; have hcz14_0 : w12.cell? ⟨gb495, 0, none⟩ = some (.int .i64 0) := (z0q BK495.out 0).trans rfl; have hcz14_1 : w12.cell? ⟨gb495, 1, none⟩ = some (.int .i64 0) := (z0q BK495.out 1).trans rfl; have hcz14_2 : w12.cell? ⟨gb495, 2, none⟩ = some (.bool false) := (z0q BK495.out 2).trans rfl; have hcz14_3 : w12.cell? ⟨gb495, 3, none⟩ = some (.bool false) := (z0q BK495.out 3).trans rfl; have hcz14_4 : w12.cell? ⟨gb495, 4, none⟩ = some (.int .i64 0) := (z0q BK495.out 4).trans rfl; have hcz14_5 : w12.cell? ⟨gb495, 5, none⟩ = some (.int .i64 0) := (z0q BK495.out 5).trans rfl; have hcz14_6 : w12.cell? ⟨gb495, 6, none⟩ = some (.bool false) := (z0q BK495.out 6).trans rfl; have hcz14_7 : w12.cell? ⟨gb495, 7, none⟩ = some (.bool false) := (z0q BK495.out 7).trans rfl; have hfz14_0 := z1q BK495.out 0; have hfz14_1 := z1q BK495.out 1; have hfz14_2 := z1q BK495.out 2; have hfz14_3 := z1q BK495.out 3; have hfz14_4 := z1q BK495.out 4; have hfz14_5 := z1q BK495.out 5; have hfz14_6 := z1q BK495.out 6; have hfz14_7 := z1q BK495.out 7; have hcz15_0 : w12.cell? ⟨gb496, 0, none⟩ = some (.int .i64 0) := (z0q BK496.out 0).trans rfl; have hcz15_1 : w12.cell? ⟨gb496, 1, none⟩ = some (.int .i64 0) := (z0q BK496.out 1).trans rfl; have hcz15_2 : w12.cell? ⟨gb496, 2, none⟩ = some (.bool false) := (z0q BK496.out 2).trans rfl; have hcz15_3 : w12.cell? ⟨gb496, 3, none⟩ = some (.bool false) := (z0q BK496.out 3).trans rfl; have hcz15_4 : w12.cell? ⟨gb496, 4, none⟩ = some (.int .i64 0) := (z0q BK496.out 4).trans rfl; have hcz15_5 : w12.cell? ⟨gb496, 5, none⟩ = some (.int .i64 0) := (z0q BK496.out 5).trans rfl; have hcz15_6 : w12.cell? ⟨gb496, 6, none⟩ = some (.bool false) := (z0q BK496.out 6).trans rfl; have hcz15_7 : w12.cell? ⟨gb496, 7, none⟩ = some (.bool false) := (z0q BK496.out 7).trans rfl; have hfz15_0 := z1q BK496.out 0; have hfz15_1 := z1q BK496.out 1; have hfz15_2 := z1q BK496.out 2; have hfz15_3 := z1q BK496.out 3; have hfz15_4 := z1q BK496.out 4; have hfz15_5 := z1q BK496.out 5; have hfz15_6 := z1q BK496.out 6; have hfz15_7 := z1q BK496.out 7) | ((with_reducible refine z15q (f := 5) rfl ?_); refine z23q (some 33) rfl rfl Try.func5 (by kernel_rfl) rfl #[.agg #[.int .i64 t479, .int .i64 t480, .bool t481, .bool t482, .int .i64 t483, .int .i64 t484, .bool t485, .bool t486], .agg #[.int .i64 t487, .int .i64 t488, .bool t489, .bool t490, .int .i64 t491, .int .i64 t492, .bool t493, .bool t494]] rfl (by (try simp only [map_toArray, map_cons, map_nil]); first | done | rfl | (simp only [length_drop, length_take]; rfl)) ?_; (with_reducible refine (impl_Meet.calls k t479 t480 t481 t482 t483 t484 t485 t486 t487 t488 t489 t490 t491 t492 t493 t494 t497 t498 t499 t500 t501 t502 t503 t504 t505 _ A4.out).mono ?_); rintro e w16 ⟨rfl, hb⟩; refine ⟨_, rfl, ?_⟩; have n0_ := Aside0.mk (z2q (g := gb495) (o := .cells #[.int .i64 t479, .int .i64 t480, .bool t481, .bool t482, .int .i64 t483, .int .i64 t484, .bool t485, .bool t486] 26 (0, 0)) (by refine cz ?_; refine z6q (cs := #[.int .i64 t479, .int .i64 t480, .bool t481, .bool t482, .int .i64 t483, .int .i64 t484, .bool t485, .bool false]) ?_ 7 _ rfl; refine cz ?_; refine z6q (cs := #[.int .i64 t479, .int .i64 t480, .bool t481, .bool t482, .int .i64 t483, .int .i64 t484, .bool false, .bool false]) ?_ 6 _ rfl; refine cz ?_; refine z6q (cs := #[.int .i64 t479, .int .i64 t480, .bool t481, .bool t482, .int .i64 t483, .int .i64 0, .bool false, .bool false]) ?_ 5 _ rfl; refine cz ?_; refine z6q (cs := #[.int .i64 t479, .int .i64 t480, .bool t481, .bool t482, .int .i64 0, .int .i64 0, .bool false, .bool false]) ?_ 4 _ rfl; refine cz ?_; refine z6q (cs := #[.int .i64 t479, .int .i64 t480, .bool t481, .bool false, .int .i64 0, .int .i64 0, .bool false, .bool false]) ?_ 3 _ rfl; refine cz ?_; refine z6q (cs := #[.int .i64 t479, .int .i64 t480, .bool false, .bool false, .int .i64 0, .int .i64 0, .bool false, .bool false]) ?_ 2 _ rfl; refine cz ?_; refine z6q (cs := #[.int .i64 t479, .int .i64 0, .bool false, .bool false, .int .i64 0, .int .i64 0, .bool false, .bool false]) ?_ 1 _ rfl; refine cz ?_; refine z6q (cs := #[.int .i64 0, .int .i64 0, .bool false, .bool false, .int .i64 0, .int .i64 0, .bool false, .bool false]) ?_ 0 _ rfl; exact cy BK495.out) hb); have n1_ := Aside0.mk (z2q (g := gb496) (o := .cells #[.int .i64 t487, .int .i64 t488, .bool t489, .bool t490, .int .i64 t491, .int .i64 t492, .bool t493, .bool t494] 26 (0, 0)) (by refine cz ?_; refine z6q (cs := #[.int .i64 t487, .int .i64 t488, .bool t489, .bool t490, .int .i64 t491, .int .i64 t492, .bool t493, .bool false]) ?_ 7 _ rfl; refine cz ?_; refine z6q (cs := #[.int .i64 t487, .int .i64 t488, .bool t489, .bool t490, .int .i64 t491, .int .i64 t492, .bool false, .bool false]) ?_ 6 _ rfl; refine cz ?_; refine z6q (cs := #[.int .i64 t487, .int .i64 t488, .bool t489, .bool t490, .int .i64 t491, .int .i64 0, .bool false, .bool false]) ?_ 5 _ rfl; refine cz ?_; refine z6q (cs := #[.int .i64 t487, .int .i64 t488, .bool t489, .bool t490, .int .i64 0, .int .i64 0, .bool false, .bool false]) ?_ 4 _ rfl; refine cz ?_; refine z6q (cs := #[.int .i64 t487, .int .i64 t488, .bool t489, .bool false, .int .i64 0, .int .i64 0, .bool false, .bool false]) ?_ 3 _ rfl; refine cz ?_; refine z6q (cs := #[.int .i64 t487, .int .i64 t488, .bool false, .bool false, .int .i64 0, .int .i64 0, .bool false, .bool false]) ?_ 2 _ rfl; refine cz ?_; refine z6q (cs := #[.int .i64 t487, .int .i64 0, .bool false, .bool false, .int .i64 0, .int .i64 0, .bool false, .bool false]) ?_ 1 _ rfl; refine cz ?_; refine z6q (cs := #[.int .i64 0, .int .i64 0, .bool false, .bool false, .int .i64 0, .int .i64 0, .bool false, .bool false]) ?_ 0 _ rfl; exact cy BK496.out) hb); have n2_ := Aside0.mk (z8q (ibh HB.out) hb); clear BK495; clear BK496; clear HB; have BK495 := n0_; have BK496 := n1_; have HB := n2_; clear n0_ n1_ n2_; (try clear hb); (try clear hb2); (try clear hk); (try clear hi)) | ((with_reducible refine z22q (N := 5) rfl ?_); (try (refine gate_guard (by rfl) ?_; dsimp only)); refine z20q ?hg (N := 5) ?hd (cs := #[.int .i64 0, .int .i64 0, .bool false, .bool false, .int .i64 0, .int .i64 0, .bool false, .bool false]) (t := 26) ?hr ?_; (case hd => rfl); (case hg => rfl); (case hr => first | (go_simp; done) | (go_simp; rfl)); intro gb506 hg w17 hbox hb; have n0_ := Aside0.mk (z2q (cy BK495.out) hb); have n1_ := Aside0.mk (z2q (cy BK496.out) hb); have n2_ := Aside0.mk (z8q (ibh HB.out) hb); have n3_ := Aside0.mk (hbox); have n4_ := Aside0.mk ((by rw [hg]; exact (z13q (ibh HB.out)) : w.heap.size ≤ gb506)); have n5_ := Aside0.mk ((by rw [hg]; exact (z13q (ibh HB.out)) : w.heap.size ≤ gb506)); have n6_ := Aside0.mk ((by rw [hg]; exact Nat.ne_of_lt (z14q (cy BK495.out)) : gb495 ≠ gb506)); have n7_ := Aside0.mk ((by rw [hg]; exact Nat.ne_of_gt (z14q (cy BK495.out)) : gb506 ≠ gb495)); have n8_ := Aside0.mk ((by rw [hg]; exact Nat.ne_of_lt (z14q (cy BK496.out)) : gb496 ≠ gb506)); have n9_ := Aside0.mk ((by rw [hg]; exact Nat.ne_of_gt (z14q (cy BK496.out)) : gb506 ≠ gb496)); clear BK495; clear BK496; clear HB; have BK495 := n0_; have BK496 := n1_; have HB := n2_; have BK506 := n3_; have GW506 := n4_; have GE506 := n5_; have NB495_506 := n6_; have NB506_495 := n7_; have NB496_506 := n8_; have NB506_496 := n9_; clear n0_ n1_ n2_ n3_ n4_ n5_ n6_ n7_ n8_ n9_; clear hb hbox hg; have hnb18 := NB506_495.out; have hnc18 := NB495_506.out; have hnb19 := NB506_496.out; have hnc19 := NB496_506.out; have hcz20_0 : w17.cell? ⟨gb506, 0, none⟩ = some (.int .i64 0) := (z0q BK506.out 0).trans rfl; have hcz20_1 : w17.cell? ⟨gb506, 1, none⟩ = some (.int .i64 0) := (z0q BK506.out 1).trans rfl; have hcz20_2 : w17.cell? ⟨gb506, 2, none⟩ = some (.bool false) := (z0q BK506.out 2).trans rfl; have hcz20_3 : w17.cell? ⟨gb506, 3, none⟩ = some (.bool false) := (z0q BK506.out 3).trans rfl; have hcz20_4 : w17.cell? ⟨gb506, 4, none⟩ = some (.int .i64 0) := (z0q BK506.out 4).trans rfl; have hcz20_5 : w17.cell? ⟨gb506, 5, none⟩ = some (.int .i64 0) := (z0q BK506.out 5).trans rfl; have hcz20_6 : w17.cell? ⟨gb506, 6, none⟩ = some (.bool false) := (z0q BK506.out 6).trans rfl; have hcz20_7 : w17.cell? ⟨gb506, 7, none⟩ = some (.bool false) := (z0q BK506.out 7).trans rfl; have hfz20_0 := z1q BK506.out 0; have hfz20_1 := z1q BK506.out 1; have hfz20_2 := z1q BK506.out 2; have hfz20_3 := z1q BK506.out 3; have hfz20_4 := z1q BK506.out 4; have hfz20_5 := z1q BK506.out 5; have hfz20_6 := z1q BK506.out 6; have hfz20_7 := z1q BK506.out 7; have hcz21_0 : w17.cell? ⟨gb495, 0, none⟩ = some (.int .i64 t479) := (z0q BK495.out 0).trans rfl; have hcz21_1 : w17.cell? ⟨gb495, 1, none⟩ = some (.int .i64 t480) := (z0q BK495.out 1).trans rfl; have hcz21_2 : w17.cell? ⟨gb495, 2, none⟩ = some (.bool t481) := (z0q BK495.out 2).trans rfl; have hcz21_3 : w17.cell? ⟨gb495, 3, none⟩ = some (.bool t482) := (z0q BK495.out 3).trans rfl; have hcz21_4 : w17.cell? ⟨gb495, 4, none⟩ = some (.int .i64 t483) := (z0q BK495.out 4).trans rfl; have hcz21_5 : w17.cell? ⟨gb495, 5, none⟩ = some (.int .i64 t484) := (z0q BK495.out 5).trans rfl; have hcz21_6 : w17.cell? ⟨gb495, 6, none⟩ = some (.bool t485) := (z0q BK495.out 6).trans rfl; have hcz21_7 : w17.cell? ⟨gb495, 7, none⟩ = some (.bool t486) := (z0q BK495.out 7).trans rfl; have hfz21_0 := z1q BK495.out 0; have hfz21_1 := z1q BK495.out 1; have hfz21_2 := z1q BK495.out 2; have hfz21_3 := z1q BK495.out 3; have hfz21_4 := z1q BK495.out 4; have hfz21_5 := z1q BK495.out 5; have hfz21_6 := z1q BK495.out 6; have hfz21_7 := z1q BK495.out 7; have hcz22_0 : w17.cell? ⟨gb496, 0, none⟩ = some (.int .i64 t487) := (z0q BK496.out 0).trans rfl; have hcz22_1 : w17.cell? ⟨gb496, 1, none⟩ = some (.int .i64 t488) := (z0q BK496.out 1).trans rfl; have hcz22_2 : w17.cell? ⟨gb496, 2, none⟩ = some (.bool t489) := (z0q BK496.out 2).trans rfl; have hcz22_3 : w17.cell? ⟨gb496, 3, none⟩ = some (.bool t490) := (z0q BK496.out 3).trans rfl; have hcz22_4 : w17.cell? ⟨gb496, 4, none⟩ = some (.int .i64 t491) := (z0q BK496.out 4).trans rfl; have hcz22_5 : w17.cell? ⟨gb496, 5, none⟩ = some (.int .i64 t492) := (z0q BK496.out 5).trans rfl; have hcz22_6 : w17.cell? ⟨gb496, 6, none⟩ = some (.bool t493) := (z0q BK496.out 6).trans rfl; have hcz22_7 : w17.cell? ⟨gb496, 7, none⟩ = some (.bool t494) := (z0q BK496.out 7).trans rfl; have hfz22_0 := z1q BK496.out 0; have hfz22_1 := z1q BK496.out 1; have hfz22_2 := z1q BK496.out 2; have hfz22_3 := z1q BK496.out 3; have hfz22_4 := z1q BK496.out 4; have hfz22_5 := z1q BK496.out 5; have hfz22_6 := z1q BK496.out 6; have hfz22_7 := z1q BK496.out 7) | ((with_reducible refine z15q (f := 6) rfl ?_); refine z23q (some 38) rfl rfl Try.func6 (by kernel_rfl) rfl #[.agg #[.int .i64 t479, .int .i64 t480, .bool t481, .bool t482, .int .i64 t483, .int .i64 t484, .bool t485, .bool t486], .agg #[.int .i64 t487, .int .i64 t488, .bool t489, .bool t490, .int .i64 t491, .int .i64 t492, .bool t493, .bool t494]] rfl (by (try simp only [map_toArray, map_cons, map_nil]); first | done | rfl | (simp only [length_drop, length_take]; rfl)) ?_; (with_reducible refine (impl_Without.calls t479 t480 t481 t482 t483 t484 t485 t486 t487 t488 t489 t490 t491 t492 t493 t494 t507 _ A5.out).mono ?_); rintro e w23 ⟨v508, rfl, ho0, hb⟩; refine ⟨_, rfl, ?_⟩; have n0_ := Aside0.mk (Kd.R_lower (Kd.R_newB (Kd.R_newB (Kd.R_newB ho0 (g := gb495) (o := .cells #[.int .i64 t479, .int .i64 t480, .bool t481, .bool t482, .int .i64 t483, .int .i64 t484, .bool t485, .bool t486] 26 (0, 0)) (cy BK495.out)) (g := gb496) (o := .cells #[.int .i64 t487, .int .i64 t488, .bool t489, .bool t490, .int .i64 t491, .int .i64 t492, .bool t493, .bool t494] 26 (0, 0)) (cy BK496.out)) (g := gb506) (o := .cells #[.int .i64 t497, .int .i64 t498, .bool t499, .bool t500, .int .i64 t501, .int .i64 t502, .bool t503, .bool t504] 26 (0, 0)) (by refine cz ?_; refine z6q (cs := #[.int .i64 t497, .int .i64 t498, .bool t499, .bool t500, .int .i64 t501, .int .i64 t502, .bool t503, .bool false]) ?_ 7 _ rfl; refine cz ?_; refine z6q (cs := #[.int .i64 t497, .int .i64 t498, .bool t499, .bool t500, .int .i64 t501, .int .i64 t502, .bool false, .bool false]) ?_ 6 _ rfl; refine cz ?_; refine z6q (cs := #[.int .i64 t497, .int .i64 t498, .bool t499, .bool t500, .int .i64 t501, .int .i64 0, .bool false, .bool false]) ?_ 5 _ rfl; refine cz ?_; refine z6q (cs := #[.int .i64 t497, .int .i64 t498, .bool t499, .bool t500, .int .i64 0, .int .i64 0, .bool false, .bool false]) ?_ 4 _ rfl; refine cz ?_; refine z6q (cs := #[.int .i64 t497, .int .i64 t498, .bool t499, .bool false, .int .i64 0, .int .i64 0, .bool false, .bool false]) ?_ 3 _ rfl; refine cz ?_; refine z6q (cs := #[.int .i64 t497, .int .i64 t498, .bool false, .bool false, .int .i64 0, .int .i64 0, .bool false, .bool false]) ?_ 2 _ rfl; refine cz ?_; refine z6q (cs := #[.int .i64 t497, .int .i64 0, .bool false, .bool false, .int .i64 0, .int .i64 0, .bool false, .bool false]) ?_ 1 _ rfl; refine cz ?_; refine z6q (cs := #[.int .i64 0, .int .i64 0, .bool false, .bool false, .int .i64 0, .int .i64 0, .bool false, .bool false]) ?_ 0 _ rfl; exact cy BK506.out)) (z13q (ibh HB.out))); have n1_ := Aside0.mk (z2q (cy BK495.out) hb); have n2_ := Aside0.mk (z2q (cy BK496.out) hb); have n3_ := Aside0.mk (z2q (g := gb506) (o := .cells #[.int .i64 t497, .int .i64 t498, .bool t499, .bool t500, .int .i64 t501, .int .i64 t502, .bool t503, .bool t504] 26 (0, 0)) (by refine cz ?_; refine z6q (cs := #[.int .i64 t497, .int .i64 t498, .bool t499, .bool t500, .int .i64 t501, .int .i64 t502, .bool t503, .bool false]) ?_ 7 _ rfl; refine cz ?_; refine z6q (cs := #[.int .i64 t497, .int .i64 t498, .bool t499, .bool t500, .int .i64 t501, .int .i64 t502, .bool false, .bool false]) ?_ 6 _ rfl; refine cz ?_; refine z6q (cs := #[.int .i64 t497, .int .i64 t498, .bool t499, .bool t500, .int .i64 t501, .int .i64 0, .bool false, .bool false]) ?_ 5 _ rfl; refine cz ?_; refine z6q (cs := #[.int .i64 t497, .int .i64 t498, .bool t499, .bool t500, .int .i64 0, .int .i64 0, .bool false, .bool false]) ?_ 4 _ rfl; refine cz ?_; refine z6q (cs := #[.int .i64 t497, .int .i64 t498, .bool t499, .bool false, .int .i64 0, .int .i64 0, .bool false, .bool false]) ?_ 3 _ rfl; refine cz ?_; refine z6q (cs := #[.int .i64 t497, .int .i64 t498, .bool false, .bool false, .int .i64 0, .int .i64 0, .bool false, .bool false]) ?_ 2 _ rfl; refine cz ?_; refine z6q (cs := #[.int .i64 t497, .int .i64 0, .bool false, .bool false, .int .i64 0, .int .i64 0, .bool false, .bool false]) ?_ 1 _ rfl; refine cz ?_; refine z6q (cs := #[.int .i64 0, .int .i64 0, .bool false, .bool false, .int .i64 0, .int .i64 0, .bool false, .bool false]) ?_ 0 _ rfl; exact cy BK506.out) hb); have n4_ := Aside0.mk (z8q (ibh HB.out) hb); clear BK495; clear BK496; clear BK506; clear HB; have HO509 := n0_; have BK495 := n1_; have BK496 := n2_; have BK506 := n3_; have HB := n4_; clear n0_ n1_ n2_ n3_ n4_; (try clear hb); (try clear hb2); (try clear hk); (try clear hi); (try clear ho0); have hcz24_0 : w23.cell? ⟨gb495, 0, none⟩ = some (.int .i64 t479) := (z0q BK495.out 0).trans rfl; have hcz24_1 : w23.cell? ⟨gb495, 1, none⟩ = some (.int .i64 t480) := (z0q BK495.out 1).trans rfl; have hcz24_2 : w23.cell? ⟨gb495, 2, none⟩ = some (.bool t481) := (z0q BK495.out 2).trans rfl; have hcz24_3 : w23.cell? ⟨gb495, 3, none⟩ = some (.bool t482) := (z0q BK495.out 3).trans rfl; have hcz24_4 : w23.cell? ⟨gb495, 4, none⟩ = some (.int .i64 t483) := (z0q BK495.out 4).trans rfl; have hcz24_5 : w23.cell? ⟨gb495, 5, none⟩ = some (.int .i64 t484) := (z0q BK495.out 5).trans rfl; have hcz24_6 : w23.cell? ⟨gb495, 6, none⟩ = some (.bool t485) := (z0q BK495.out 6).trans rfl; have hcz24_7 : w23.cell? ⟨gb495, 7, none⟩ = some (.bool t486) := (z0q BK495.out 7).trans rfl; have hfz24_0 := z1q BK495.out 0; have hfz24_1 := z1q BK495.out 1; have hfz24_2 := z1q BK495.out 2; have hfz24_3 := z1q BK495.out 3; have hfz24_4 := z1q BK495.out 4; have hfz24_5 := z1q BK495.out 5; have hfz24_6 := z1q BK495.out 6; have hfz24_7 := z1q BK495.out 7; have hcz25_0 : w23.cell? ⟨gb496, 0, none⟩ = some (.int .i64 t487) := (z0q BK496.out 0).trans rfl; have hcz25_1 : w23.cell? ⟨gb496, 1, none⟩ = some (.int .i64 t488) := (z0q BK496.out 1).trans rfl; have hcz25_2 : w23.cell? ⟨gb496, 2, none⟩ = some (.bool t489) := (z0q BK496.out 2).trans rfl; have hcz25_3 : w23.cell? ⟨gb496, 3, none⟩ = some (.bool t490) := (z0q BK496.out 3).trans rfl; have hcz25_4 : w23.cell? ⟨gb496, 4, none⟩ = some (.int .i64 t491) := (z0q BK496.out 4).trans rfl; have hcz25_5 : w23.cell? ⟨gb496, 5, none⟩ = some (.int .i64 t492) := (z0q BK496.out 5).trans rfl; have hcz25_6 : w23.cell? ⟨gb496, 6, none⟩ = some (.bool t493) := (z0q BK496.out 6).trans rfl; have hcz25_7 : w23.cell? ⟨gb496, 7, none⟩ = some (.bool t494) := (z0q BK496.out 7).trans rfl; have hfz25_0 := z1q BK496.out 0; have hfz25_1 := z1q BK496.out 1; have hfz25_2 := z1q BK496.out 2; have hfz25_3 := z1q BK496.out 3; have hfz25_4 := z1q BK496.out 4; have hfz25_5 := z1q BK496.out 5; have hfz25_6 := z1q BK496.out 6; have hfz25_7 := z1q BK496.out 7) | ((with_reducible refine z15q (f := 8) rfl ?_); refine z23q (some 42) rfl rfl Try.func8 (by kernel_rfl) rfl #[.agg #[.int .i64 t479, .int .i64 t480, .bool t481, .bool t482, .int .i64 t483, .int .i64 t484, .bool t485, .bool t486], .agg #[.int .i64 t487, .int .i64 t488, .bool t489, .bool t490, .int .i64 t491, .int .i64 t492, .bool t493, .bool t494]] rfl (by (try simp only [map_toArray, map_cons, map_nil]); first | done | rfl | (simp only [length_drop, length_take]; rfl)) ?_; (with_reducible refine (spec_Without.calls k t479 t480 t481 t482 t483 t484 t485 t486 t487 t488 t489 t490 t491 t492 t493 t494 t510 _ A6.out).mono ?_); rintro e w26 ⟨v511, rfl, ho0, hb⟩; refine ⟨_, rfl, ?_⟩; have n0_ := Aside0.mk (Kd.R_elder' (ro HO509.out) (Kd.R_base ho0) hb); have n1_ := Aside0.mk (Kd.R_lower (Kd.R_newB (Kd.R_newB (Kd.R_newB (Kd.R_new' ho0 (Kd.R_lt (ro HO509.out))) (g := gb495) (o := .cells #[.int .i64 t479, .int .i64 t480, .bool t481, .bool t482, .int .i64 t483, .int .i64 t484, .bool t485, .bool t486] 26 (0, 0)) (cy BK495.out)) (g := gb496) (o := .cells #[.int .i64 t487, .int .i64 t488, .bool t489, .bool t490, .int .i64 t491, .int .i64 t492, .bool t493, .bool t494] 26 (0, 0)) (cy BK496.out)) (g := gb506) (o := .cells #[.int .i64 t497, .int .i64 t498, .bool t499, .bool t500, .int .i64 t501, .int .i64 t502, .bool t503, .bool t504] 26 (0, 0)) (cy BK506.out)) (z13q (ibh HB.out))); have n2_ := Aside0.mk (z2q (cy BK495.out) hb); have n3_ := Aside0.mk (z2q (cy BK496.out) hb); have n4_ := Aside0.mk (z2q (cy BK506.out) hb); have n5_ := Aside0.mk (z8q (ibh HB.out) hb); clear HO509; clear BK495; clear BK496; clear BK506; clear HB; have HO509 := n0_; have HO512 := n1_; have BK495 := n2_; have BK496 := n3_; have BK506 := n4_; have HB := n5_; clear n0_ n1_ n2_ n3_ n4_ n5_; (try clear hb); (try clear hb2); (try clear hk); (try clear hi); (try clear ho0); obtain ⟨Ao27, co27, eo27⟩ := Kd.R_slice HO509.out; subst eo27; obtain ⟨Ao28, co28, eo28⟩ := Kd.R_slice HO512.out; subst eo28) | ((with_reducible refine z15q (f := 7) rfl ?_); refine z23q (some 43) rfl rfl Try.func7 (by kernel_rfl) rfl #[.slice Ao27 t507.length co27, .slice Ao28 t510.length co28] rfl (by (try simp only [map_toArray, map_cons, map_nil]); first | done | rfl | (simp only [length_drop, length_take]; rfl)) ?_; (with_reducible refine (laws_zAreas.calls k _ _ t507 _ _ t510 true _ ?side1 ?side2 ?side3 ?side4 A7.out).mono ?_); (case side1 => repeat (first | exact (Kd.R_reads' HO509.out).2.2 | (with_reducible refine Kd.C_alloc ?_ _) | (with_reducible refine Kd.C_drewN ?_ _) | (with_reducible refine Kd.C_drew ?_))); (case side2 => exact (Kd.R_reads' HO509.out).2.1); (case side3 => repeat (first | exact (Kd.R_reads' HO512.out).2.2 | (with_reducible refine Kd.C_alloc ?_ _) | (with_reducible refine Kd.C_drewN ?_ _) | (with_reducible refine Kd.C_drew ?_))); (case side4 => exact (Kd.R_reads' HO512.out).2.1); rintro e w' ⟨rfl, ⟨nd, rfl⟩⟩; refine ⟨_, rfl, ?_⟩))
 (try simp only [Act.put, setIfInBounds_toArray, set_cons_zero, set_cons_succ])
 go_cut [52] (fun v52 wc => ∃ (kq : Nat) (x52_8 : Bool), v52 = .bool x52_8 ∧ Aside0 (laws_FnAreas.j0 kq t505 t507 x52_8 t479 t480 t481 t482 t483 t484 t485 t486 t487 t488 t489 t490 t491 t492 t493 t494 t497 t498 t499 t500 t501 t502 t503 t504 = some r) ∧ Aside0 (kq ≤ k) ∧ Aside0 (Kd.R k26 26 wc w.heap.size (fun k_ => k_ ≠ gb495 ∧ k_ ≠ gb496 ∧ k_ ≠ gb506) (.slice Ao27 t507.length co27) t507) ∧ Aside0 (wc.heap[gb495]? = some (.cells #[.int .i64 t479, .int .i64 t480, .bool t481, .bool t482, .int .i64 t483, .int .i64 t484, .bool t485, .bool t486] 26 (0, 0))) ∧ Aside0 (wc.heap[gb496]? = some (.cells #[.int .i64 t487, .int .i64 t488, .bool t489, .bool t490, .int .i64 t491, .int .i64 t492, .bool t493, .bool t494] 26 (0, 0))) ∧ Aside0 (wc.heap[gb506]? = some (.cells #[.int .i64 t497, .int .i64 t498, .bool t499, .bool t500, .int .i64 t501, .int .i64 t502, .bool t503, .bool t504] 26 (0, 0))) ∧ Aside0 (Below w.heap.size w wc))
 case first =>
  have H := HC9.out
  clear HC9
  replace H := Option.bind_eq_some_iff.mp H
  obtain ⟨t514, A290, H⟩ := H
  replace H : (if t514 = true then ((spec_GoodArea.f t487 t488 t489 t490 t491 t492 t493 t494).bind fun t515 => (laws_FnAreas.j0 k t505 t507 (!t515) t479 t480 t481 t482 t483 t484 t485 t486 t487 t488 t489 t490 t491 t492 t493 t494 t497 t498 t499 t500 t501 t502 t503 t504)) else (laws_FnAreas.j0 k t505 t507 true t479 t480 t481 t482 t483 t484 t485 t486 t487 t488 t489 t490 t491 t492 t493 t494 t497 t498 t499 t500 t501 t502 t503 t504)) = some r := H
  have A29 := Aside0.mk A290
  clear A290
  by_cases c30 : t514 = true
  ·subst c30
   have H1 : ((spec_GoodArea.f t487 t488 t489 t490 t491 t492 t493 t494).bind fun t515 => (laws_FnAreas.j0 k t505 t507 (!t515) t479 t480 t481 t482 t483 t484 t485 t486 t487 t488 t489 t490 t491 t492 t493 t494 t497 t498 t499 t500 t501 t502 t503 t504)) = some r := by rw [if_pos rfl] at H; exact H
   clear H
   have H := H1
   clear H1
   replace H := Option.bind_eq_some_iff.mp H
   obtain ⟨t515, A310, H⟩ := H
   replace H : (laws_FnAreas.j0 k t505 t507 (!t515) t479 t480 t481 t482 t483 t484 t485 t486 t487 t488 t489 t490 t491 t492 t493 t494 t497 t498 t499 t500 t501 t502 t503 t504) = some r := H
   have A31 := Aside0.mk A310
   clear A310
   have H' := Aside0.mk H
   clear H
   have hnb32 := NB495_496.out
   have hnc32 := NB496_495.out
   have hnb33 := NB495_506.out
   have hnc33 := NB506_495.out
   have hcz34_0 : w26.cell? ⟨gb495, 0, none⟩ = some (.int .i64 t479) := (z0q BK495.out 0).trans rfl
   have hcz34_1 : w26.cell? ⟨gb495, 1, none⟩ = some (.int .i64 t480) := (z0q BK495.out 1).trans rfl
   have hcz34_2 : w26.cell? ⟨gb495, 2, none⟩ = some (.bool t481) := (z0q BK495.out 2).trans rfl
   have hcz34_3 : w26.cell? ⟨gb495, 3, none⟩ = some (.bool t482) := (z0q BK495.out 3).trans rfl
   have hcz34_4 : w26.cell? ⟨gb495, 4, none⟩ = some (.int .i64 t483) := (z0q BK495.out 4).trans rfl
   have hcz34_5 : w26.cell? ⟨gb495, 5, none⟩ = some (.int .i64 t484) := (z0q BK495.out 5).trans rfl
   have hcz34_6 : w26.cell? ⟨gb495, 6, none⟩ = some (.bool t485) := (z0q BK495.out 6).trans rfl
   have hcz34_7 : w26.cell? ⟨gb495, 7, none⟩ = some (.bool t486) := (z0q BK495.out 7).trans rfl
   have hfz34_0 := z1q BK495.out 0
   have hfz34_1 := z1q BK495.out 1
   have hfz34_2 := z1q BK495.out 2
   have hfz34_3 := z1q BK495.out 3
   have hfz34_4 := z1q BK495.out 4
   have hfz34_5 := z1q BK495.out 5
   have hfz34_6 := z1q BK495.out 6
   have hfz34_7 := z1q BK495.out 7
   go_wp2_with (first | ((with_reducible refine z15q (f := 9) rfl ?_); refine z23q (some 46) rfl rfl Try.func9 (by kernel_rfl) rfl #[.agg #[.int .i64 t479, .int .i64 t480, .bool t481, .bool t482, .int .i64 t483, .int .i64 t484, .bool t485, .bool t486]] rfl (by (try simp only [map_toArray, map_cons, map_nil]); first | done | rfl | (simp only [length_drop, length_take]; rfl)) ?_; (with_reducible refine (spec_GoodArea.calls t479 t480 t481 t482 t483 t484 t485 t486 true _ A29.out).mono ?_); rintro e w35 ⟨rfl, hb⟩; refine ⟨_, rfl, ?_⟩; have n0_ := Aside0.mk (Kd.R_below (ro HO509.out) hb); have n1_ := Aside0.mk (Kd.R_below (ro HO512.out) hb); have n2_ := Aside0.mk (z2q (cy BK495.out) hb); have n3_ := Aside0.mk (z2q (cy BK496.out) hb); have n4_ := Aside0.mk (z2q (cy BK506.out) hb); have n5_ := Aside0.mk (z8q (ibh HB.out) hb); clear HO509; clear HO512; clear BK495; clear BK496; clear BK506; clear HB; have HO509 := n0_; have HO512 := n1_; have BK495 := n2_; have BK496 := n3_; have BK506 := n4_; have HB := n5_; clear n0_ n1_ n2_ n3_ n4_ n5_; (try clear hb); (try clear hb2); (try clear hk); (try clear hi); have hnb36 := NB496_506.out; have hnc36 := NB506_496.out; have hcz37_0 : w35.cell? ⟨gb496, 0, none⟩ = some (.int .i64 t487) := (z0q BK496.out 0).trans rfl; have hcz37_1 : w35.cell? ⟨gb496, 1, none⟩ = some (.int .i64 t488) := (z0q BK496.out 1).trans rfl; have hcz37_2 : w35.cell? ⟨gb496, 2, none⟩ = some (.bool t489) := (z0q BK496.out 2).trans rfl; have hcz37_3 : w35.cell? ⟨gb496, 3, none⟩ = some (.bool t490) := (z0q BK496.out 3).trans rfl; have hcz37_4 : w35.cell? ⟨gb496, 4, none⟩ = some (.int .i64 t491) := (z0q BK496.out 4).trans rfl; have hcz37_5 : w35.cell? ⟨gb496, 5, none⟩ = some (.int .i64 t492) := (z0q BK496.out 5).trans rfl; have hcz37_6 : w35.cell? ⟨gb496, 6, none⟩ = some (.bool t493) := (z0q BK496.out 6).trans rfl; have hcz37_7 : w35.cell? ⟨gb496, 7, none⟩ = some (.bool t494) := (z0q BK496.out 7).trans rfl; have hfz37_0 := z1q BK496.out 0; have hfz37_1 := z1q BK496.out 1; have hfz37_2 := z1q BK496.out 2; have hfz37_3 := z1q BK496.out 3; have hfz37_4 := z1q BK496.out 4; have hfz37_5 := z1q BK496.out 5; have hfz37_6 := z1q BK496.out 6; have hfz37_7 := z1q BK496.out 7) | (go_at_call 9; (with_reducible refine (spec_GoodArea.calls t487 t488 t489 t490 t491 t492 t493 t494 t515 _ A31.out).mono ?_); rintro e w38 ⟨rfl, hb⟩; have n0_ := Aside0.mk (Kd.R_below (ro HO509.out) hb); have n1_ := Aside0.mk (Kd.R_below (ro HO512.out) hb); have n2_ := Aside0.mk (z2q (cy BK495.out) hb); have n3_ := Aside0.mk (z2q (cy BK496.out) hb); have n4_ := Aside0.mk (z2q (cy BK506.out) hb); have n5_ := Aside0.mk (z8q (ibh HB.out) hb); clear HO509; clear HO512; clear BK495; clear BK496; clear BK506; clear HB; have HO509 := n0_; have HO512 := n1_; have BK495 := n2_; have BK496 := n3_; have BK506 := n4_; have HB := n5_; clear n0_ n1_ n2_ n3_ n4_ n5_; (try clear hb); (try clear hb2); (try clear hk); (try clear hi)))
   go_meet
   case rel => exact ⟨_, (!t515), (by first | rfl | (simp; done) | (simp [*]; done) | (simp; unfold wrap64; omega)), H', ⟨by first | omega | exact Nat.le_refl _⟩, ⟨by (with_reducible repeat (first | apply Kd.R_alloc | apply Kd.R_drewN | apply Kd.R_drew)); exact Kd.R_mono HO509.out (fun _ hk => ⟨hk.1.1.1.2, ⟨hk.1.1.2, hk.1.2⟩⟩)⟩, ⟨by (with_reducible repeat (first | refine z11q ?_ _ | refine z10q ?_ | refine z4q ?_ _)); exact BK495.out⟩, ⟨by (with_reducible repeat (first | refine z11q ?_ _ | refine z10q ?_ | refine z4q ?_ _)); exact BK496.out⟩, ⟨by (with_reducible repeat (first | refine z11q ?_ _ | refine z10q ?_ | refine z4q ?_ _)); exact BK506.out⟩, ⟨by repeat (first | (with_reducible first | exact HB.out | apply z7q | apply z5q | apply z12q | refine z3q ?_ GE495.out | refine z3q ?_ GE496.out | refine z3q ?_ GE506.out) | exact HB.out)⟩⟩
  ·replace c30 := Bool.eq_false_iff.mpr c30
   subst c30
   have H1 : (laws_FnAreas.j0 k t505 t507 true t479 t480 t481 t482 t483 t484 t485 t486 t487 t488 t489 t490 t491 t492 t493 t494 t497 t498 t499 t500 t501 t502 t503 t504) = some r := by rw [if_neg (show ¬ (false = true) by decide)] at H; exact H
   clear H
   have H := H1
   clear H1
   have H' := Aside0.mk H
   clear H
   have hnb39 := NB495_496.out
   have hnc39 := NB496_495.out
   have hnb40 := NB495_506.out
   have hnc40 := NB506_495.out
   have hcz41_0 : w26.cell? ⟨gb495, 0, none⟩ = some (.int .i64 t479) := (z0q BK495.out 0).trans rfl
   have hcz41_1 : w26.cell? ⟨gb495, 1, none⟩ = some (.int .i64 t480) := (z0q BK495.out 1).trans rfl
   have hcz41_2 : w26.cell? ⟨gb495, 2, none⟩ = some (.bool t481) := (z0q BK495.out 2).trans rfl
   have hcz41_3 : w26.cell? ⟨gb495, 3, none⟩ = some (.bool t482) := (z0q BK495.out 3).trans rfl
   have hcz41_4 : w26.cell? ⟨gb495, 4, none⟩ = some (.int .i64 t483) := (z0q BK495.out 4).trans rfl
   have hcz41_5 : w26.cell? ⟨gb495, 5, none⟩ = some (.int .i64 t484) := (z0q BK495.out 5).trans rfl
   have hcz41_6 : w26.cell? ⟨gb495, 6, none⟩ = some (.bool t485) := (z0q BK495.out 6).trans rfl
   have hcz41_7 : w26.cell? ⟨gb495, 7, none⟩ = some (.bool t486) := (z0q BK495.out 7).trans rfl
   have hfz41_0 := z1q BK495.out 0
   have hfz41_1 := z1q BK495.out 1
   have hfz41_2 := z1q BK495.out 2
   have hfz41_3 := z1q BK495.out 3
   have hfz41_4 := z1q BK495.out 4
   have hfz41_5 := z1q BK495.out 5
   have hfz41_6 := z1q BK495.out 6
   have hfz41_7 := z1q BK495.out 7
   go_wp2_with (first | ((with_reducible refine z15q (f := 9) rfl ?_); refine z23q (some 46) rfl rfl Try.func9 (by kernel_rfl) rfl #[.agg #[.int .i64 t479, .int .i64 t480, .bool t481, .bool t482, .int .i64 t483, .int .i64 t484, .bool t485, .bool t486]] rfl (by (try simp only [map_toArray, map_cons, map_nil]); first | done | rfl | (simp only [length_drop, length_take]; rfl)) ?_; (with_reducible refine (spec_GoodArea.calls t479 t480 t481 t482 t483 t484 t485 t486 false _ A29.out).mono ?_); rintro e w42 ⟨rfl, hb⟩; refine ⟨_, rfl, ?_⟩; have n0_ := Aside0.mk (Kd.R_below (ro HO509.out) hb); have n1_ := Aside0.mk (Kd.R_below (ro HO512.out) hb); have n2_ := Aside0.mk (z2q (cy BK495.out) hb); have n3_ := Aside0.mk (z2q (cy BK496.out) hb); have n4_ := Aside0.mk (z2q (cy BK506.out) hb); have n5_ := Aside0.mk (z8q (ibh HB.out) hb); clear HO509; clear HO512; clear BK495; clear BK496; clear BK506; clear HB; have HO509 := n0_; have HO512 := n1_; have BK495 := n2_; have BK496 := n3_; have BK506 := n4_; have HB := n5_; clear n0_ n1_ n2_ n3_ n4_ n5_; (try clear hb); (try clear hb2); (try clear hk); (try clear hi)))
   go_meet
   case rel => exact ⟨_, (true), (by first | rfl | (simp; done) | (simp [*]; done) | (simp; unfold wrap64; omega)), H', ⟨by first | omega | exact Nat.le_refl _⟩, ⟨by (with_reducible repeat (first | apply Kd.R_alloc | apply Kd.R_drewN | apply Kd.R_drew)); exact Kd.R_mono HO509.out (fun _ hk => ⟨hk.1.1.1.2, ⟨hk.1.1.2, hk.1.2⟩⟩)⟩, ⟨by (with_reducible repeat (first | refine z11q ?_ _ | refine z10q ?_ | refine z4q ?_ _)); exact BK495.out⟩, ⟨by (with_reducible repeat (first | refine z11q ?_ _ | refine z10q ?_ | refine z4q ?_ _)); exact BK496.out⟩, ⟨by (with_reducible repeat (first | refine z11q ?_ _ | refine z10q ?_ | refine z4q ?_ _)); exact BK506.out⟩, ⟨by repeat (first | (with_reducible first | exact HB.out | apply z7q | apply z5q | apply z12q | refine z3q ?_ GE495.out | refine z3q ?_ GE496.out | refine z3q ?_ GE506.out) | exact HB.out)⟩⟩
 case rest =>
  clear HC9
  try clear c1
  try clear c2
  try clear c2b0
  try clear c2b1
  try clear p2
  try clear c3
  try clear c4
  try clear c5
  try clear c6
  try clear c7
  try clear c8
  try clear c9
  try clear c13
  try clear c18
  try clear c19
  try clear c30
  try clear c32
  try clear c33
  try clear c36
  try clear c39
  try clear c40
  try clear hcz14_0
  try clear hcz14_1
  try clear hcz14_2
  try clear hcz14_3
  try clear hcz14_4
  try clear hcz14_5
  try clear hcz14_6
  try clear hcz14_7
  try clear hcz15_0
  try clear hcz15_1
  try clear hcz15_2
  try clear hcz15_3
  try clear hcz15_4
  try clear hcz15_5
  try clear hcz15_6
  try clear hcz15_7
  try clear hcz20_0
  try clear hcz20_1
  try clear hcz20_2
  try clear hcz20_3
  try clear hcz20_4
  try clear hcz20_5
  try clear hcz20_6
  try clear hcz20_7
  try clear hcz21_0
  try clear hcz21_1
  try clear hcz21_2
  try clear hcz21_3
  try clear hcz21_4
  try clear hcz21_5
  try clear hcz21_6
  try clear hcz21_7
  try clear hcz22_0
  try clear hcz22_1
  try clear hcz22_2
  try clear hcz22_3
  try clear hcz22_4
  try clear hcz22_5
  try clear hcz22_6
  try clear hcz22_7
  try clear hcz24_0
  try clear hcz24_1
  try clear hcz24_2
  try clear hcz24_3
  try clear hcz24_4
  try clear hcz24_5
  try clear hcz24_6
  try clear hcz24_7
  try clear hcz25_0
  try clear hcz25_1
  try clear hcz25_2
  try clear hcz25_3
  try clear hcz25_4
  try clear hcz25_5
  try clear hcz25_6
  try clear hcz25_7
  try clear hcz34_0
  try clear hcz34_1
  try clear hcz34_2
  try clear hcz34_3
  try clear hcz34_4
  try clear hcz34_5
  try clear hcz34_6
  try clear hcz34_7
  try clear hcz37_0
  try clear hcz37_1
  try clear hcz37_2
  try clear hcz37_3
  try clear hcz37_4
  try clear hcz37_5
  try clear hcz37_6
  try clear hcz37_7
  try clear hcz41_0
  try clear hcz41_1
  try clear hcz41_2
  try clear hcz41_3
  try clear hcz41_4
  try clear hcz41_5
  try clear hcz41_6
  try clear hcz41_7
  try clear hfz14_0
  try clear hfz14_1
  try clear hfz14_2
  try clear hfz14_3
  try clear hfz14_4
  try clear hfz14_5
  try clear hfz14_6
  try clear hfz14_7
  try clear hfz15_0
  try clear hfz15_1
  try clear hfz15_2
  try clear hfz15_3
  try clear hfz15_4
  try clear hfz15_5
  try clear hfz15_6
  try clear hfz15_7
  try clear hfz20_0
  try clear hfz20_1
  try clear hfz20_2
  try clear hfz20_3
  try clear hfz20_4
  try clear hfz20_5
  try clear hfz20_6
  try clear hfz20_7
  try clear hfz21_0
  try clear hfz21_1
  try clear hfz21_2
  try clear hfz21_3
  try clear hfz21_4
  try clear hfz21_5
  try clear hfz21_6
  try clear hfz21_7
  try clear hfz22_0
  try clear hfz22_1
  try clear hfz22_2
  try clear hfz22_3
  try clear hfz22_4
  try clear hfz22_5
  try clear hfz22_6
  try clear hfz22_7
  try clear hfz24_0
  try clear hfz24_1
  try clear hfz24_2
  try clear hfz24_3
  try clear hfz24_4
  try clear hfz24_5
  try clear hfz24_6
  try clear hfz24_7
  try clear hfz25_0
  try clear hfz25_1
  try clear hfz25_2
  try clear hfz25_3
  try clear hfz25_4
  try clear hfz25_5
  try clear hfz25_6
  try clear hfz25_7
  try clear hfz34_0
  try clear hfz34_1
  try clear hfz34_2
  try clear hfz34_3
  try clear hfz34_4
  try clear hfz34_5
  try clear hfz34_6
  try clear hfz34_7
  try clear hfz37_0
  try clear hfz37_1
  try clear hfz37_2
  try clear hfz37_3
  try clear hfz37_4
  try clear hfz37_5
  try clear hfz37_6
  try clear hfz37_7
  try clear hfz41_0
  try clear hfz41_1
  try clear hfz41_2
  try clear hfz41_3
  try clear hfz41_4
  try clear hfz41_5
  try clear hfz41_6
  try clear hfz41_7
  obtain ⟨kq, x52_8, rfl, HA, HJ8, HO_7, BK495, BK496, BK506, HB⟩ := hcut
  cases kq with
  | zero => exact absurd HA.out (by simp [laws_FnAreas.j0])
  | succ kj8 =>
   have H := HA.out
   clear HA
   simp only [laws_FnAreas.j0] at H
   by_cases c43 : x52_8 = true
   ·subst c43
    have H1 : (if t505 = true then (some false) else (if (t507.length : Int) = 0 then ((impl_Hull.f kj8 t479 t480 t481 t482 t483 t484 t485 t486 t487 t488 t489 t490 t491 t492 t493 t494).bind fun bt516 => (some ((bt516.1 == 0 && (bt516.2.1 == 0 && (!bt516.2.2.1 && (!bt516.2.2.2.1)))) && ((bt516.2.2.2.2.1 == 0 && (bt516.2.2.2.2.2.1 == 0 && (!bt516.2.2.2.2.2.2.1 && (!bt516.2.2.2.2.2.2.2)))))))) else (some false))) = some r := by rw [if_pos rfl] at H; exact H
    clear H
    have H := H1
    clear H1
    by_cases c44 : t505 = true
    ·subst c44
     have H1 : (some false) = some r := by rw [if_pos rfl] at H; exact H
     clear H
     have H := H1
     clear H1
     exact absurd ((Option.some.inj H).trans hr) (by decide)
    ·replace c44 := Bool.eq_false_iff.mpr c44
     subst c44
     have H1 : (if (t507.length : Int) = 0 then ((impl_Hull.f kj8 t479 t480 t481 t482 t483 t484 t485 t486 t487 t488 t489 t490 t491 t492 t493 t494).bind fun bt516 => (some ((bt516.1 == 0 && (bt516.2.1 == 0 && (!bt516.2.2.1 && (!bt516.2.2.2.1)))) && ((bt516.2.2.2.2.1 == 0 && (bt516.2.2.2.2.2.1 == 0 && (!bt516.2.2.2.2.2.2.1 && (!bt516.2.2.2.2.2.2.2)))))))) else (some false)) = some r := by rw [if_neg (show ¬ (false = true) by decide)] at H; exact H
     clear H
     have H := H1
     clear H1
     by_cases c45 : (t507.length : Int) = 0
     ·rw [if_pos c45] at H
      have c45b0 : ((t507.length : Int) == 0) = true := beq_iff_eq.mpr c45
      have c45b1 : ((t507.length : Int) != 0) = false := bne_eq_false_iff_eq.mpr c45
      clear c45
      replace H := Option.bind_eq_some_iff.mp H
      obtain ⟨⟨t516, t517, t518, t519, t520, t521, t522, t523⟩, A460, H⟩ := H
      replace H : (some ((t516 == 0 && (t517 == 0 && (!t518 && (!t519)))) && ((t520 == 0 && (t521 == 0 && (!t522 && (!t523))))))) = some r := H
      have A46 := Aside0.mk A460
      clear A460
      obtain rfl := Option.some.inj H
      have hnb47 := NB495_496.out
      have hnc47 := NB496_495.out
      have hnb48 := NB495_506.out
      have hnc48 := NB506_495.out
      have hcz49_0 : wc.cell? ⟨gb495, 0, none⟩ = some (.int .i64 t479) := (z0q BK495.out 0).trans rfl
      have hcz49_1 : wc.cell? ⟨gb495, 1, none⟩ = some (.int .i64 t480) := (z0q BK495.out 1).trans rfl
      have hcz49_2 : wc.cell? ⟨gb495, 2, none⟩ = some (.bool t481) := (z0q BK495.out 2).trans rfl
      have hcz49_3 : wc.cell? ⟨gb495, 3, none⟩ = some (.bool t482) := (z0q BK495.out 3).trans rfl
      have hcz49_4 : wc.cell? ⟨gb495, 4, none⟩ = some (.int .i64 t483) := (z0q BK495.out 4).trans rfl
      have hcz49_5 : wc.cell? ⟨gb495, 5, none⟩ = some (.int .i64 t484) := (z0q BK495.out 5).trans rfl
      have hcz49_6 : wc.cell? ⟨gb495, 6, none⟩ = some (.bool t485) := (z0q BK495.out 6).trans rfl
      have hcz49_7 : wc.cell? ⟨gb495, 7, none⟩ = some (.bool t486) := (z0q BK495.out 7).trans rfl
      have hfz49_0 := z1q BK495.out 0
      have hfz49_1 := z1q BK495.out 1
      have hfz49_2 := z1q BK495.out 2
      have hfz49_3 := z1q BK495.out 3
      have hfz49_4 := z1q BK495.out 4
      have hfz49_5 := z1q BK495.out 5
      have hfz49_6 := z1q BK495.out 6
      have hfz49_7 := z1q BK495.out 7
      have hnb50 := NB496_506.out
      have hnc50 := NB506_496.out
      have hcz51_0 : wc.cell? ⟨gb496, 0, none⟩ = some (.int .i64 t487) := (z0q BK496.out 0).trans rfl
      have hcz51_1 : wc.cell? ⟨gb496, 1, none⟩ = some (.int .i64 t488) := (z0q BK496.out 1).trans rfl
      have hcz51_2 : wc.cell? ⟨gb496, 2, none⟩ = some (.bool t489) := (z0q BK496.out 2).trans rfl
      have hcz51_3 : wc.cell? ⟨gb496, 3, none⟩ = some (.bool t490) := (z0q BK496.out 3).trans rfl
      have hcz51_4 : wc.cell? ⟨gb496, 4, none⟩ = some (.int .i64 t491) := (z0q BK496.out 4).trans rfl
      have hcz51_5 : wc.cell? ⟨gb496, 5, none⟩ = some (.int .i64 t492) := (z0q BK496.out 5).trans rfl
      have hcz51_6 : wc.cell? ⟨gb496, 6, none⟩ = some (.bool t493) := (z0q BK496.out 6).trans rfl
      have hcz51_7 : wc.cell? ⟨gb496, 7, none⟩ = some (.bool t494) := (z0q BK496.out 7).trans rfl
      have hfz51_0 := z1q BK496.out 0
      have hfz51_1 := z1q BK496.out 1
      have hfz51_2 := z1q BK496.out 2
      have hfz51_3 := z1q BK496.out 3
      have hfz51_4 := z1q BK496.out 4
      have hfz51_5 := z1q BK496.out 5
      have hfz51_6 := z1q BK496.out 6
      have hfz51_7 := z1q BK496.out 7
      go_wp2_with (first | (go_at_call 10; (with_reducible refine (impl_Hull.calls kj8 t479 t480 t481 t482 t483 t484 t485 t486 t487 t488 t489 t490 t491 t492 t493 t494 t516 t517 t518 t519 t520 t521 t522 t523 _ A46.out).mono ?_); rintro e w52 ⟨rfl, hb⟩; have n0_ := Aside0.mk (Kd.R_below (ro HO_7.out) hb); have n1_ := Aside0.mk (z2q (cy BK495.out) hb); have n2_ := Aside0.mk (z2q (cy BK496.out) hb); have n3_ := Aside0.mk (z2q (cy BK506.out) hb); have n4_ := Aside0.mk (z8q (ibh HB.out) hb); clear HO_7; clear BK495; clear BK496; clear BK506; clear HB; have HO_7 := n0_; have BK495 := n1_; have BK496 := n2_; have BK506 := n3_; have HB := n4_; clear n0_ n1_ n2_ n3_ n4_; (try clear hb); (try clear hb2); (try clear hk); (try clear hi)))
      go_ret
      exact ⟨by first | rfl | (simp [errW_none, errW_some] <;> rfl) | (simp [*, errW_none, errW_some] <;> rfl), by repeat (first | (with_reducible first | exact HB.out | apply z7q | apply z5q | apply z12q | refine z3q ?_ GE495.out | refine z3q ?_ GE496.out | refine z3q ?_ GE506.out) | exact HB.out)⟩
     ·rw [if_neg c45] at H
      have c45b0 : ((t507.length : Int) == 0) = false := beq_eq_false_iff_ne.mpr c45
      have c45b1 : ((t507.length : Int) != 0) = true := bne_iff_ne.mpr c45
      have c45b2 : ¬ (t507 = []) := fun h_ => c45 (by rw [h_]; rfl)
      exact absurd ((Option.some.inj H).trans hr) (by decide)
   ·replace c43 := Bool.eq_false_iff.mpr c43
    subst c43
    have H1 : (if t505 = true then ((spec_CellsIn.f t497 t498 t499 t500 t501 t502 t503 t504).bind fun t524 => (laws_FnAreas.j1 kj8 t507 t524 t479 t480 t481 t482 t483 t484 t485 t486 t487 t488 t489 t490 t491 t492 t493 t494)) else (laws_FnAreas.j1 kj8 t507 0 t479 t480 t481 t482 t483 t484 t485 t486 t487 t488 t489 t490 t491 t492 t493 t494)) = some r := by rw [if_neg (show ¬ (false = true) by decide)] at H; exact H
    clear H
    have H := H1
    clear H1
    have HC53 := Aside0.mk H
    clear H
    go_upto_if 67 with (fail)
    go_cut [8] (fun v8 wc => ∃ (kq : Nat) (x8_52 : Int), v8 = .int .i64 x8_52 ∧ Aside0 (laws_FnAreas.j1 kq t507 x8_52 t479 t480 t481 t482 t483 t484 t485 t486 t487 t488 t489 t490 t491 t492 t493 t494 = some r) ∧ Aside0 (kq ≤ kj8) ∧ Aside0 (Kd.R k26 26 wc w.heap.size (fun k_ => k_ ≠ gb495 ∧ k_ ≠ gb496 ∧ k_ ≠ gb506) (.slice Ao27 t507.length co27) t507) ∧ Aside0 (wc.heap[gb495]? = some (.cells #[.int .i64 t479, .int .i64 t480, .bool t481, .bool t482, .int .i64 t483, .int .i64 t484, .bool t485, .bool t486] 26 (0, 0))) ∧ Aside0 (wc.heap[gb496]? = some (.cells #[.int .i64 t487, .int .i64 t488, .bool t489, .bool t490, .int .i64 t491, .int .i64 t492, .bool t493, .bool t494] 26 (0, 0))) ∧ Aside0 (wc.heap[gb506]? = some (.cells #[.int .i64 t497, .int .i64 t498, .bool t499, .bool t500, .int .i64 t501, .int .i64 t502, .bool t503, .bool t504] 26 (0, 0))) ∧ Aside0 (Below w.heap.size w wc))
    case first =>
     have H := HC53.out
     clear HC53
     by_cases c54 : t505 = true
     ·subst c54
      have H1 : ((spec_CellsIn.f t497 t498 t499 t500 t501 t502 t503 t504).bind fun t524 => (laws_FnAreas.j1 kj8 t507 t524 t479 t480 t481 t482 t483 t484 t485 t486 t487 t488 t489 t490 t491 t492 t493 t494)) = some r := by rw [if_pos rfl] at H; exact H
      clear H
      have H := H1
      clear H1
      replace H := Option.bind_eq_some_iff.mp H
      obtain ⟨t524, A550, H⟩ := H
      replace H : (laws_FnAreas.j1 kj8 t507 t524 t479 t480 t481 t482 t483 t484 t485 t486 t487 t488 t489 t490 t491 t492 t493 t494) = some r := H
      have A55 := Aside0.mk A550
      clear A550
      have H' := Aside0.mk H
      clear H
      have hnb56 := NB506_495.out
      have hnc56 := NB495_506.out
      have hnb57 := NB506_496.out
      have hnc57 := NB496_506.out
      have hcz58_0 : wc.cell? ⟨gb506, 0, none⟩ = some (.int .i64 t497) := (z0q BK506.out 0).trans rfl
      have hcz58_1 : wc.cell? ⟨gb506, 1, none⟩ = some (.int .i64 t498) := (z0q BK506.out 1).trans rfl
      have hcz58_2 : wc.cell? ⟨gb506, 2, none⟩ = some (.bool t499) := (z0q BK506.out 2).trans rfl
      have hcz58_3 : wc.cell? ⟨gb506, 3, none⟩ = some (.bool t500) := (z0q BK506.out 3).trans rfl
      have hcz58_4 : wc.cell? ⟨gb506, 4, none⟩ = some (.int .i64 t501) := (z0q BK506.out 4).trans rfl
      have hcz58_5 : wc.cell? ⟨gb506, 5, none⟩ = some (.int .i64 t502) := (z0q BK506.out 5).trans rfl
      have hcz58_6 : wc.cell? ⟨gb506, 6, none⟩ = some (.bool t503) := (z0q BK506.out 6).trans rfl
      have hcz58_7 : wc.cell? ⟨gb506, 7, none⟩ = some (.bool t504) := (z0q BK506.out 7).trans rfl
      have hfz58_0 := z1q BK506.out 0
      have hfz58_1 := z1q BK506.out 1
      have hfz58_2 := z1q BK506.out 2
      have hfz58_3 := z1q BK506.out 3
      have hfz58_4 := z1q BK506.out 4
      have hfz58_5 := z1q BK506.out 5
      have hfz58_6 := z1q BK506.out 6
      have hfz58_7 := z1q BK506.out 7
      go_wp2_with (first | ((with_reducible refine z15q (f := 11) rfl ?_); refine z23q (some 69) rfl rfl Try.func11 (by kernel_rfl) rfl #[.agg #[.int .i64 t497, .int .i64 t498, .bool t499, .bool t500, .int .i64 t501, .int .i64 t502, .bool t503, .bool t504]] rfl (by (try simp only [map_toArray, map_cons, map_nil]); first | done | rfl | (simp only [length_drop, length_take]; rfl)) ?_; (with_reducible refine (spec_CellsIn.calls t497 t498 t499 t500 t501 t502 t503 t504 t524 _ A55.out).mono ?_); rintro e w59 ⟨rfl, hb⟩; refine ⟨_, rfl, ?_⟩; have n0_ := Aside0.mk (Kd.R_below (ro HO_7.out) hb); have n1_ := Aside0.mk (z2q (cy BK495.out) hb); have n2_ := Aside0.mk (z2q (cy BK496.out) hb); have n3_ := Aside0.mk (z2q (cy BK506.out) hb); have n4_ := Aside0.mk (z8q (ibh HB.out) hb); clear HO_7; clear BK495; clear BK496; clear BK506; clear HB; have HO_7 := n0_; have BK495 := n1_; have BK496 := n2_; have BK506 := n3_; have HB := n4_; clear n0_ n1_ n2_ n3_ n4_; (try clear hb); (try clear hb2); (try clear hk); (try clear hi)))
      go_meet
      case rel => exact ⟨_, (t524), (by first | rfl | (simp; done) | (simp [*]; done) | (simp; unfold wrap64; omega)), H', ⟨by have := HJ8.out; first | omega | exact Nat.le_refl _⟩, ⟨by (with_reducible repeat (first | apply Kd.R_alloc | apply Kd.R_drewN | apply Kd.R_drew)); exact HO_7.out⟩, ⟨by (with_reducible repeat (first | refine z11q ?_ _ | refine z10q ?_ | refine z4q ?_ _)); exact BK495.out⟩, ⟨by (with_reducible repeat (first | refine z11q ?_ _ | refine z10q ?_ | refine z4q ?_ _)); exact BK496.out⟩, ⟨by (with_reducible repeat (first | refine z11q ?_ _ | refine z10q ?_ | refine z4q ?_ _)); exact BK506.out⟩, ⟨by repeat (first | (with_reducible first | exact HB.out | apply z7q | apply z5q | apply z12q | refine z3q ?_ GE495.out | refine z3q ?_ GE496.out | refine z3q ?_ GE506.out) | exact HB.out)⟩⟩
     ·replace c54 := Bool.eq_false_iff.mpr c54
      subst c54
      have H1 : (laws_FnAreas.j1 kj8 t507 0 t479 t480 t481 t482 t483 t484 t485 t486 t487 t488 t489 t490 t491 t492 t493 t494) = some r := by rw [if_neg (show ¬ (false = true) by decide)] at H; exact H
      clear H
      have H := H1
      clear H1
      have H' := Aside0.mk H
      clear H
      go_wp2
      go_meet
      case rel => exact ⟨_, (0), (by first | rfl | (simp; done) | (simp [*]; done) | (simp; unfold wrap64; omega)), H', ⟨by have := HJ8.out; first | omega | exact Nat.le_refl _⟩, ⟨by (with_reducible repeat (first | apply Kd.R_alloc | apply Kd.R_drewN | apply Kd.R_drew)); exact HO_7.out⟩, ⟨by (with_reducible repeat (first | refine z11q ?_ _ | refine z10q ?_ | refine z4q ?_ _)); exact BK495.out⟩, ⟨by (with_reducible repeat (first | refine z11q ?_ _ | refine z10q ?_ | refine z4q ?_ _)); exact BK496.out⟩, ⟨by (with_reducible repeat (first | refine z11q ?_ _ | refine z10q ?_ | refine z4q ?_ _)); exact BK506.out⟩, ⟨by repeat (first | (with_reducible first | exact HB.out | apply z7q | apply z5q | apply z12q | refine z3q ?_ GE495.out | refine z3q ?_ GE496.out | refine z3q ?_ GE506.out) | exact HB.out)⟩⟩
    case rest =>
     clear HC53
     try clear c1
     try clear c2
     try clear c2b0
     try clear c2b1
     try clear p2
     try clear c3
     try clear c4
     try clear c5
     try clear c6
     try clear c7
     try clear c8
     try clear c9
     try clear c11
     try clear c13
     try clear c18
     try clear c19
     try clear c30
     try clear c32
     try clear c33
     try clear c36
     try clear c39
     try clear c40
     try clear c43
     try clear c44
     try clear c45
     try clear c45b0
     try clear c45b1
     try clear c45b2
     try clear c47
     try clear c48
     try clear c50
     try clear c54
     try clear c56
     try clear c57
     try clear hcz14_0
     try clear hcz14_1
     try clear hcz14_2
     try clear hcz14_3
     try clear hcz14_4
     try clear hcz14_5
     try clear hcz14_6
     try clear hcz14_7
     try clear hcz15_0
     try clear hcz15_1
     try clear hcz15_2
     try clear hcz15_3
     try clear hcz15_4
     try clear hcz15_5
     try clear hcz15_6
     try clear hcz15_7
     try clear hcz20_0
     try clear hcz20_1
     try clear hcz20_2
     try clear hcz20_3
     try clear hcz20_4
     try clear hcz20_5
     try clear hcz20_6
     try clear hcz20_7
     try clear hcz21_0
     try clear hcz21_1
     try clear hcz21_2
     try clear hcz21_3
     try clear hcz21_4
     try clear hcz21_5
     try clear hcz21_6
     try clear hcz21_7
     try clear hcz22_0
     try clear hcz22_1
     try clear hcz22_2
     try clear hcz22_3
     try clear hcz22_4
     try clear hcz22_5
     try clear hcz22_6
     try clear hcz22_7
     try clear hcz24_0
     try clear hcz24_1
     try clear hcz24_2
     try clear hcz24_3
     try clear hcz24_4
     try clear hcz24_5
     try clear hcz24_6
     try clear hcz24_7
     try clear hcz25_0
     try clear hcz25_1
     try clear hcz25_2
     try clear hcz25_3
     try clear hcz25_4
     try clear hcz25_5
     try clear hcz25_6
     try clear hcz25_7
     try clear hcz34_0
     try clear hcz34_1
     try clear hcz34_2
     try clear hcz34_3
     try clear hcz34_4
     try clear hcz34_5
     try clear hcz34_6
     try clear hcz34_7
     try clear hcz37_0
     try clear hcz37_1
     try clear hcz37_2
     try clear hcz37_3
     try clear hcz37_4
     try clear hcz37_5
     try clear hcz37_6
     try clear hcz37_7
     try clear hcz41_0
     try clear hcz41_1
     try clear hcz41_2
     try clear hcz41_3
     try clear hcz41_4
     try clear hcz41_5
     try clear hcz41_6
     try clear hcz41_7
     try clear hcz49_0
     try clear hcz49_1
     try clear hcz49_2
     try clear hcz49_3
     try clear hcz49_4
     try clear hcz49_5
     try clear hcz49_6
     try clear hcz49_7
     try clear hcz51_0
     try clear hcz51_1
     try clear hcz51_2
     try clear hcz51_3
     try clear hcz51_4
     try clear hcz51_5
     try clear hcz51_6
     try clear hcz51_7
     try clear hcz58_0
     try clear hcz58_1
     try clear hcz58_2
     try clear hcz58_3
     try clear hcz58_4
     try clear hcz58_5
     try clear hcz58_6
     try clear hcz58_7
     try clear hfz14_0
     try clear hfz14_1
     try clear hfz14_2
     try clear hfz14_3
     try clear hfz14_4
     try clear hfz14_5
     try clear hfz14_6
     try clear hfz14_7
     try clear hfz15_0
     try clear hfz15_1
     try clear hfz15_2
     try clear hfz15_3
     try clear hfz15_4
     try clear hfz15_5
     try clear hfz15_6
     try clear hfz15_7
     try clear hfz20_0
     try clear hfz20_1
     try clear hfz20_2
     try clear hfz20_3
     try clear hfz20_4
     try clear hfz20_5
     try clear hfz20_6
     try clear hfz20_7
     try clear hfz21_0
     try clear hfz21_1
     try clear hfz21_2
     try clear hfz21_3
     try clear hfz21_4
     try clear hfz21_5
     try clear hfz21_6
     try clear hfz21_7
     try clear hfz22_0
     try clear hfz22_1
     try clear hfz22_2
     try clear hfz22_3
     try clear hfz22_4
     try clear hfz22_5
     try clear hfz22_6
     try clear hfz22_7
     try clear hfz24_0
     try clear hfz24_1
     try clear hfz24_2
     try clear hfz24_3
     try clear hfz24_4
     try clear hfz24_5
     try clear hfz24_6
     try clear hfz24_7
     try clear hfz25_0
     try clear hfz25_1
     try clear hfz25_2
     try clear hfz25_3
     try clear hfz25_4
     try clear hfz25_5
     try clear hfz25_6
     try clear hfz25_7
     try clear hfz34_0
     try clear hfz34_1
     try clear hfz34_2
     try clear hfz34_3
     try clear hfz34_4
     try clear hfz34_5
     try clear hfz34_6
     try clear hfz34_7
     try clear hfz37_0
     try clear hfz37_1
     try clear hfz37_2
     try clear hfz37_3
     try clear hfz37_4
     try clear hfz37_5
     try clear hfz37_6
     try clear hfz37_7
     try clear hfz41_0
     try clear hfz41_1
     try clear hfz41_2
     try clear hfz41_3
     try clear hfz41_4
     try clear hfz41_5
     try clear hfz41_6
     try clear hfz41_7
     try clear hfz49_0
     try clear hfz49_1
     try clear hfz49_2
     try clear hfz49_3
     try clear hfz49_4
     try clear hfz49_5
     try clear hfz49_6
     try clear hfz49_7
     try clear hfz51_0
     try clear hfz51_1
     try clear hfz51_2
     try clear hfz51_3
     try clear hfz51_4
     try clear hfz51_5
     try clear hfz51_6
     try clear hfz51_7
     try clear hfz58_0
     try clear hfz58_1
     try clear hfz58_2
     try clear hfz58_3
     try clear hfz58_4
     try clear hfz58_5
     try clear hfz58_6
     try clear hfz58_7
     try clear p2
     obtain ⟨kq, x8_52, rfl, HA, HJ52, HO_7, BK495, BK496, BK506, HB⟩ := hcut
     cases kq with
     | zero => exact absurd HA.out (by simp [laws_FnAreas.j1])
     | succ kj52 =>
      have H := HA.out
      clear HA
      simp only [laws_FnAreas.j1] at H
      have H' := Aside0.mk H
      clear H
      go_wp2
      go_loopg [8, 72] kj52 (fun kq v8 v72 w' => ∃ (x8_3 : Int) (x72_3 : Int), v8 = .int .i64 x8_3 ∧ v72 = .int .i64 x72_3 ∧ Aside0 (laws_FnAreas.l0 kq t507 x8_3 t507 (t507.length : Int) x72_3 t479 t480 t481 t482 t483 t484 t485 t486 t487 t488 t489 t490 t491 t492 t493 t494 = some r) ∧ Aside0 (kq ≤ kj52) ∧ Aside0 (Kd.R k26 26 w' w.heap.size (fun k_ => k_ ≠ gb495 ∧ k_ ≠ gb496 ∧ k_ ≠ gb506) (.slice Ao27 t507.length co27) t507) ∧ Aside0 (Kd.R k26 26 w' w.heap.size (fun k_ => k_ ≠ gb495 ∧ k_ ≠ gb496 ∧ k_ ≠ gb506) (.slice Ao27 t507.length co27) t507) ∧ Aside0 (w'.heap[gb495]? = some (.cells #[.int .i64 t479, .int .i64 t480, .bool t481, .bool t482, .int .i64 t483, .int .i64 t484, .bool t485, .bool t486] 26 (0, 0))) ∧ Aside0 (w'.heap[gb496]? = some (.cells #[.int .i64 t487, .int .i64 t488, .bool t489, .bool t490, .int .i64 t491, .int .i64 t492, .bool t493, .bool t494] 26 (0, 0))) ∧ Aside0 (w'.heap[gb506]? = some (.cells #[.int .i64 t497, .int .i64 t498, .bool t499, .bool t500, .int .i64 t501, .int .i64 t502, .bool t503, .bool t504] 26 (0, 0))) ∧ Aside0 (Below w.heap.size w w'))
      case atStart => exact ⟨(x8_52), (0), (by first | rfl | (simp; done) | (simp [*]; done) | (simp; unfold wrap64; omega)), (by first | rfl | (simp; done) | (simp [*]; done) | (simp; unfold wrap64; omega)), H', ⟨Nat.le_refl _⟩, ⟨by (with_reducible repeat (first | apply Kd.R_alloc | apply Kd.R_drewN | apply Kd.R_drew)); exact HO_7.out⟩, ⟨by (with_reducible repeat (first | apply Kd.R_alloc | apply Kd.R_drewN | apply Kd.R_drew)); exact HO_7.out⟩, ⟨by (with_reducible repeat (first | refine z11q ?_ _ | refine z10q ?_ | refine z4q ?_ _)); exact BK495.out⟩, ⟨by (with_reducible repeat (first | refine z11q ?_ _ | refine z10q ?_ | refine z4q ?_ _)); exact BK496.out⟩, ⟨by (with_reducible repeat (first | refine z11q ?_ _ | refine z10q ?_ | refine z4q ?_ _)); exact BK506.out⟩, ⟨by repeat (first | (with_reducible first | exact HB.out | apply z7q | apply z5q | apply z12q | refine z3q ?_ GE495.out | refine z3q ?_ GE496.out | refine z3q ?_ GE506.out) | exact HB.out)⟩⟩
      case round =>
       clear H'
       try clear c1
       try clear c2
       try clear c2b0
       try clear c2b1
       try clear p2
       try clear c3
       try clear c4
       try clear c5
       try clear c6
       try clear c7
       try clear c8
       try clear c9
       try clear c11
       try clear c13
       try clear c18
       try clear c19
       try clear c30
       try clear c32
       try clear c33
       try clear c36
       try clear c39
       try clear c40
       try clear c43
       try clear c44
       try clear c45
       try clear c45b0
       try clear c45b1
       try clear c45b2
       try clear c47
       try clear c48
       try clear c50
       try clear c54
       try clear c56
       try clear c57
       try clear hcz14_0
       try clear hcz14_1
       try clear hcz14_2
       try clear hcz14_3
       try clear hcz14_4
       try clear hcz14_5
       try clear hcz14_6
       try clear hcz14_7
       try clear hcz15_0
       try clear hcz15_1
       try clear hcz15_2
       try clear hcz15_3
       try clear hcz15_4
       try clear hcz15_5
       try clear hcz15_6
       try clear hcz15_7
       try clear hcz20_0
       try clear hcz20_1
       try clear hcz20_2
       try clear hcz20_3
       try clear hcz20_4
       try clear hcz20_5
       try clear hcz20_6
       try clear hcz20_7
       try clear hcz21_0
       try clear hcz21_1
       try clear hcz21_2
       try clear hcz21_3
       try clear hcz21_4
       try clear hcz21_5
       try clear hcz21_6
       try clear hcz21_7
       try clear hcz22_0
       try clear hcz22_1
       try clear hcz22_2
       try clear hcz22_3
       try clear hcz22_4
       try clear hcz22_5
       try clear hcz22_6
       try clear hcz22_7
       try clear hcz24_0
       try clear hcz24_1
       try clear hcz24_2
       try clear hcz24_3
       try clear hcz24_4
       try clear hcz24_5
       try clear hcz24_6
       try clear hcz24_7
       try clear hcz25_0
       try clear hcz25_1
       try clear hcz25_2
       try clear hcz25_3
       try clear hcz25_4
       try clear hcz25_5
       try clear hcz25_6
       try clear hcz25_7
       try clear hcz34_0
       try clear hcz34_1
       try clear hcz34_2
       try clear hcz34_3
       try clear hcz34_4
       try clear hcz34_5
       try clear hcz34_6
       try clear hcz34_7
       try clear hcz37_0
       try clear hcz37_1
       try clear hcz37_2
       try clear hcz37_3
       try clear hcz37_4
       try clear hcz37_5
       try clear hcz37_6
       try clear hcz37_7
       try clear hcz41_0
       try clear hcz41_1
       try clear hcz41_2
       try clear hcz41_3
       try clear hcz41_4
       try clear hcz41_5
       try clear hcz41_6
       try clear hcz41_7
       try clear hcz49_0
       try clear hcz49_1
       try clear hcz49_2
       try clear hcz49_3
       try clear hcz49_4
       try clear hcz49_5
       try clear hcz49_6
       try clear hcz49_7
       try clear hcz51_0
       try clear hcz51_1
       try clear hcz51_2
       try clear hcz51_3
       try clear hcz51_4
       try clear hcz51_5
       try clear hcz51_6
       try clear hcz51_7
       try clear hcz58_0
       try clear hcz58_1
       try clear hcz58_2
       try clear hcz58_3
       try clear hcz58_4
       try clear hcz58_5
       try clear hcz58_6
       try clear hcz58_7
       try clear hfz14_0
       try clear hfz14_1
       try clear hfz14_2
       try clear hfz14_3
       try clear hfz14_4
       try clear hfz14_5
       try clear hfz14_6
       try clear hfz14_7
       try clear hfz15_0
       try clear hfz15_1
       try clear hfz15_2
       try clear hfz15_3
       try clear hfz15_4
       try clear hfz15_5
       try clear hfz15_6
       try clear hfz15_7
       try clear hfz20_0
       try clear hfz20_1
       try clear hfz20_2
       try clear hfz20_3
       try clear hfz20_4
       try clear hfz20_5
       try clear hfz20_6
       try clear hfz20_7
       try clear hfz21_0
       try clear hfz21_1
       try clear hfz21_2
       try clear hfz21_3
       try clear hfz21_4
       try clear hfz21_5
       try clear hfz21_6
       try clear hfz21_7
       try clear hfz22_0
       try clear hfz22_1
       try clear hfz22_2
       try clear hfz22_3
       try clear hfz22_4
       try clear hfz22_5
       try clear hfz22_6
       try clear hfz22_7
       try clear hfz24_0
       try clear hfz24_1
       try clear hfz24_2
       try clear hfz24_3
       try clear hfz24_4
       try clear hfz24_5
       try clear hfz24_6
       try clear hfz24_7
       try clear hfz25_0
       try clear hfz25_1
       try clear hfz25_2
       try clear hfz25_3
       try clear hfz25_4
       try clear hfz25_5
       try clear hfz25_6
       try clear hfz25_7
       try clear hfz34_0
       try clear hfz34_1
       try clear hfz34_2
       try clear hfz34_3
       try clear hfz34_4
       try clear hfz34_5
       try clear hfz34_6
       try clear hfz34_7
       try clear hfz37_0
       try clear hfz37_1
       try clear hfz37_2
       try clear hfz37_3
       try clear hfz37_4
       try clear hfz37_5
       try clear hfz37_6
       try clear hfz37_7
       try clear hfz41_0
       try clear hfz41_1
       try clear hfz41_2
       try clear hfz41_3
       try clear hfz41_4
       try clear hfz41_5
       try clear hfz41_6
       try clear hfz41_7
       try clear hfz49_0
       try clear hfz49_1
       try clear hfz49_2
       try clear hfz49_3
       try clear hfz49_4
       try clear hfz49_5
       try clear hfz49_6
       try clear hfz49_7
       try clear hfz51_0
       try clear hfz51_1
       try clear hfz51_2
       try clear hfz51_3
       try clear hfz51_4
       try clear hfz51_5
       try clear hfz51_6
       try clear hfz51_7
       try clear hfz58_0
       try clear hfz58_1
       try clear hfz58_2
       try clear hfz58_3
       try clear hfz58_4
       try clear hfz58_5
       try clear hfz58_6
       try clear hfz58_7
       try clear p2
       obtain ⟨x8_3, x72_3, rfl, rfl, HA, HK3, HO_7, HO_70, BK495, BK496, BK506, HB⟩ := hrel
       cases gk with
       | zero => exact absurd HA.out (by simp [laws_FnAreas.l0])
       | succ k3 =>
        have H := HA.out
        clear HA
        simp only [laws_FnAreas.l0] at H
        by_cases c60 : x72_3 < (t507.length : Int)
        ·rw [if_pos c60] at H
         have c60b0 : decide (x72_3 < (t507.length : Int)) = true := decide_eq_true c60
         clear c60
         by_cases c61 : 0 ≤ x72_3
         ·rw [if_pos c61] at H
          have c61b0 : decide (0 ≤ x72_3) = true := decide_eq_true c61
          clear c61
          by_cases c62 : x72_3 < (t507.length : Int)
          ·rw [if_pos c62] at H
           have c62b0 : decide (x72_3 < (t507.length : Int)) = true := decide_eq_true c62
           clear c62
           replace H := Option.bind_eq_some_iff.mp H
           obtain ⟨t527, A630, H⟩ := H
           replace H : ((spec_Meet.f k3 ((rd_T26 t507 x72_3).f0.f0) ((rd_T26 t507 x72_3).f0.f1) ((rd_T26 t507 x72_3).f0.f2) ((rd_T26 t507 x72_3).f0.f3) ((rd_T26 t507 x72_3).f1.f0) ((rd_T26 t507 x72_3).f1.f1) ((rd_T26 t507 x72_3).f1.f2) ((rd_T26 t507 x72_3).f1.f3) t487 t488 t489 t490 t491 t492 t493 t494).bind fun bt528 => (if bt528.2.2.2.2.2.2.2.2 = true then (some false) else (if x72_3 ≤ (t507.length : Int) then ((some (t507.take (x72_3 : Int).toNat : List (S26))).bind fun y538 => (laws_FnAreas.l1 k3 t507 (wrap64 (x8_3 + t527)) t507 (t507.length : Int) x72_3 y538 (y538.length : Int) 0 t479 t480 t481 t482 t483 t484 t485 t486 t487 t488 t489 t490 t491 t492 t493 t494 ((rd_T26 t507 x72_3).f0.f0) ((rd_T26 t507 x72_3).f0.f1) ((rd_T26 t507 x72_3).f0.f2) ((rd_T26 t507 x72_3).f0.f3) ((rd_T26 t507 x72_3).f1.f0) ((rd_T26 t507 x72_3).f1.f1) ((rd_T26 t507 x72_3).f1.f2) ((rd_T26 t507 x72_3).f1.f3))) else (none)))) = some r := H
           have A63 := Aside0.mk A630
           clear A630
           replace H := Option.bind_eq_some_iff.mp H
           obtain ⟨⟨t528, t529, t530, t531, t532, t533, t534, t535, t536⟩, A640, H⟩ := H
           replace H : (if t536 = true then (some false) else (if x72_3 ≤ (t507.length : Int) then ((some (t507.take (x72_3 : Int).toNat : List (S26))).bind fun y538 => (laws_FnAreas.l1 k3 t507 (wrap64 (x8_3 + t527)) t507 (t507.length : Int) x72_3 y538 (y538.length : Int) 0 t479 t480 t481 t482 t483 t484 t485 t486 t487 t488 t489 t490 t491 t492 t493 t494 ((rd_T26 t507 x72_3).f0.f0) ((rd_T26 t507 x72_3).f0.f1) ((rd_T26 t507 x72_3).f0.f2) ((rd_T26 t507 x72_3).f0.f3) ((rd_T26 t507 x72_3).f1.f0) ((rd_T26 t507 x72_3).f1.f1) ((rd_T26 t507 x72_3).f1.f2) ((rd_T26 t507 x72_3).f1.f3))) else (none))) = some r := H
           have A64 := Aside0.mk A640
           clear A640
           by_cases c65 : t536 = true
           ·subst c65
            have H1 : (some false) = some r := by rw [if_pos rfl] at H; exact H
            clear H
            have H := H1
            clear H1
            exact absurd ((Option.some.inj H).trans hr) (by decide)
           ·replace c65 := Bool.eq_false_iff.mpr c65
            subst c65
            have H1 : (if x72_3 ≤ (t507.length : Int) then ((some (t507.take (x72_3 : Int).toNat : List (S26))).bind fun y538 => (laws_FnAreas.l1 k3 t507 (wrap64 (x8_3 + t527)) t507 (t507.length : Int) x72_3 y538 (y538.length : Int) 0 t479 t480 t481 t482 t483 t484 t485 t486 t487 t488 t489 t490 t491 t492 t493 t494 ((rd_T26 t507 x72_3).f0.f0) ((rd_T26 t507 x72_3).f0.f1) ((rd_T26 t507 x72_3).f0.f2) ((rd_T26 t507 x72_3).f0.f3) ((rd_T26 t507 x72_3).f1.f0) ((rd_T26 t507 x72_3).f1.f1) ((rd_T26 t507 x72_3).f1.f2) ((rd_T26 t507 x72_3).f1.f3))) else (none)) = some r := by rw [if_neg (show ¬ (false = true) by decide)] at H; exact H
            clear H
            have H := H1
            clear H1
            have c83b0 := eq_true (of_decide_eq_true (by first | (with_reducible assumption) | assumption) : 0 ≤ x72_3)
            by_cases c84 : x72_3 ≤ (t507.length : Int)
            ·rw [if_pos c84] at H
             have c84b0 := eq_true c84
             have c84b1 : decide (x72_3 ≤ (t507.length : Int)) = true := decide_eq_true c84
             clear c84
             obtain ⟨y538, hy538⟩ : ∃ y_ : List (S26), y_ = (t507.take (x72_3 : Int).toNat) := ⟨_, rfl⟩
             replace H : (laws_FnAreas.l1 k3 t507 (wrap64 (x8_3 + t527)) t507 (t507.length : Int) x72_3 y538 (y538.length : Int) 0 t479 t480 t481 t482 t483 t484 t485 t486 t487 t488 t489 t490 t491 t492 t493 t494 ((rd_T26 t507 x72_3).f0.f0) ((rd_T26 t507 x72_3).f0.f1) ((rd_T26 t507 x72_3).f0.f2) ((rd_T26 t507 x72_3).f0.f3) ((rd_T26 t507 x72_3).f1.f0) ((rd_T26 t507 x72_3).f1.f1) ((rd_T26 t507 x72_3).f1.f2) ((rd_T26 t507 x72_3).f1.f3)) = some r := by first | (rw [hy538]; with_reducible exact H) | (have H2_ := (Option.bind_some _ _).symm.trans H; rw [hy538]; with_reducible exact H2_) | (have H2_ := (Option.bind_some _ _).symm.trans H; with_reducible exact H2_) | with_reducible exact H | (rw [hy538]; exact H) | exact H
             have Ny538 := Aside0.mk hy538
             clear hy538
             have H' := Aside0.mk H
             clear H
             have p525 : 0 ≤ (x72_3 : Int) := of_decide_eq_true (by first | (with_reducible assumption) | assumption)
             have q525 : x72_3 < (t507.length : Int) := of_decide_eq_true (by first | (with_reducible assumption) | assumption)
             obtain ⟨ad525, e525, hx525_0, hx525_1, hx525_2, hx525_3, hx525_4, hx525_5, hx525_6, hx525_7⟩ := at_T26 (Kd.R_reads' HO_70.out).2.2 x72_3 p525 q525
             cases e525
             replace p525 := eq_true p525
             replace q525 := eq_true q525
             go_wp2_with (first | ((with_reducible refine z22q (N := 10) rfl ?_); (try (refine gate_guard (by rfl) ?_; dsimp only)); refine z20q ?hg (N := 10) ?hd (cs := #[.int .i64 0, .int .i64 0, .bool false, .bool false, .int .i64 0, .int .i64 0, .bool false, .bool false]) (t := 26) ?hr ?_; (case hd => rfl); (case hg => rfl); (case hr => first | (go_simp; done) | (go_simp; rfl)); intro gb526 hg w85 hbox hb; have n0_ := Aside0.mk (Kd.R_below (Kd.R_elderB (ro HO_7.out) gb526 (Nat.le_of_eq hg.symm)) hb); have n1_ := Aside0.mk (Kd.R_below (Kd.R_elderB (ro HO_70.out) gb526 (Nat.le_of_eq hg.symm)) hb); have n2_ := Aside0.mk (z2q (cy BK495.out) hb); have n3_ := Aside0.mk (z2q (cy BK496.out) hb); have n4_ := Aside0.mk (z2q (cy BK506.out) hb); have n5_ := Aside0.mk (z8q (ibh HB.out) hb); have n6_ := Aside0.mk (hbox); have n7_ := Aside0.mk ((by rw [hg]; exact (z13q (ibh HB.out)) : w.heap.size ≤ gb526)); have n8_ := Aside0.mk ((by rw [hg]; exact (z13q (ibh HB.out)) : w.heap.size ≤ gb526)); have n9_ := Aside0.mk ((by rw [hg]; exact Nat.ne_of_lt (z14q (cy BK495.out)) : gb495 ≠ gb526)); have n10_ := Aside0.mk ((by rw [hg]; exact Nat.ne_of_gt (z14q (cy BK495.out)) : gb526 ≠ gb495)); have n11_ := Aside0.mk ((by rw [hg]; exact Nat.ne_of_lt (z14q (cy BK496.out)) : gb496 ≠ gb526)); have n12_ := Aside0.mk ((by rw [hg]; exact Nat.ne_of_gt (z14q (cy BK496.out)) : gb526 ≠ gb496)); have n13_ := Aside0.mk ((by rw [hg]; exact Nat.ne_of_lt (z14q (cy BK506.out)) : gb506 ≠ gb526)); have n14_ := Aside0.mk ((by rw [hg]; exact Nat.ne_of_gt (z14q (cy BK506.out)) : gb526 ≠ gb506)); clear HO_7; clear HO_70; clear BK495; clear BK496; clear BK506; clear HB; have HO_7 := n0_; have HO_70 := n1_; have BK495 := n2_; have BK496 := n3_; have BK506 := n4_; have HB := n5_; have BK526 := n6_; have GW526 := n7_; have GE526 := n8_; have NB495_526 := n9_; have NB526_495 := n10_; have NB496_526 := n11_; have NB526_496 := n12_; have NB506_526 := n13_; have NB526_506 := n14_; clear n0_ n1_ n2_ n3_ n4_ n5_ n6_ n7_ n8_ n9_ n10_ n11_ n12_ n13_ n14_; clear hb hbox hg; have hnb86 := NB526_495.out; have hnc86 := NB495_526.out; have hnb87 := NB526_496.out; have hnc87 := NB496_526.out; have hnb88 := NB526_506.out; have hnc88 := NB506_526.out; have hcz89_0 : w85.cell? ⟨gb526, 0, none⟩ = some (.int .i64 0) := (z0q BK526.out 0).trans rfl; have hcz89_1 : w85.cell? ⟨gb526, 1, none⟩ = some (.int .i64 0) := (z0q BK526.out 1).trans rfl; have hcz89_2 : w85.cell? ⟨gb526, 2, none⟩ = some (.bool false) := (z0q BK526.out 2).trans rfl; have hcz89_3 : w85.cell? ⟨gb526, 3, none⟩ = some (.bool false) := (z0q BK526.out 3).trans rfl; have hcz89_4 : w85.cell? ⟨gb526, 4, none⟩ = some (.int .i64 0) := (z0q BK526.out 4).trans rfl; have hcz89_5 : w85.cell? ⟨gb526, 5, none⟩ = some (.int .i64 0) := (z0q BK526.out 5).trans rfl; have hcz89_6 : w85.cell? ⟨gb526, 6, none⟩ = some (.bool false) := (z0q BK526.out 6).trans rfl; have hcz89_7 : w85.cell? ⟨gb526, 7, none⟩ = some (.bool false) := (z0q BK526.out 7).trans rfl; have hfz89_0 := z1q BK526.out 0; have hfz89_1 := z1q BK526.out 1; have hfz89_2 := z1q BK526.out 2; have hfz89_3 := z1q BK526.out 3; have hfz89_4 := z1q BK526.out 4; have hfz89_5 := z1q BK526.out 5; have hfz89_6 := z1q BK526.out 6; have hfz89_7 := z1q BK526.out 7) | ((with_reducible refine z15q (f := 11) rfl ?_); refine z23q (some 79) rfl rfl Try.func11 (by kernel_rfl) rfl #[.agg #[.int .i64 ((rd_T26 t507 x72_3).f0.f0), .int .i64 ((rd_T26 t507 x72_3).f0.f1), .bool ((rd_T26 t507 x72_3).f0.f2), .bool ((rd_T26 t507 x72_3).f0.f3), .int .i64 ((rd_T26 t507 x72_3).f1.f0), .int .i64 ((rd_T26 t507 x72_3).f1.f1), .bool ((rd_T26 t507 x72_3).f1.f2), .bool ((rd_T26 t507 x72_3).f1.f3)]] rfl (by (try simp only [map_toArray, map_cons, map_nil]); first | done | rfl | (simp only [length_drop, length_take]; rfl)) ?_; (with_reducible refine (spec_CellsIn.calls ((rd_T26 t507 x72_3).f0.f0) ((rd_T26 t507 x72_3).f0.f1) ((rd_T26 t507 x72_3).f0.f2) ((rd_T26 t507 x72_3).f0.f3) ((rd_T26 t507 x72_3).f1.f0) ((rd_T26 t507 x72_3).f1.f1) ((rd_T26 t507 x72_3).f1.f2) ((rd_T26 t507 x72_3).f1.f3) t527 _ A63.out).mono ?_); rintro e w90 ⟨rfl, hb⟩; refine ⟨_, rfl, ?_⟩; have n0_ := Aside0.mk (Kd.R_below (by (with_reducible repeat (first | apply Kd.R_alloc | apply Kd.R_drewN | apply Kd.R_drew)); exact (Kd.R_mono (Kd.R_far (p := ⟨gb526, 7, none⟩) (Kd.R_far (p := ⟨gb526, 6, none⟩) (Kd.R_far (p := ⟨gb526, 5, none⟩) (Kd.R_far (p := ⟨gb526, 4, none⟩) (Kd.R_far (p := ⟨gb526, 3, none⟩) (Kd.R_far (p := ⟨gb526, 2, none⟩) (Kd.R_far (p := ⟨gb526, 1, none⟩) (Kd.R_far (p := ⟨gb526, 0, none⟩) (Kd.R_mono HO_7.out (fun k_ hk => (⟨hk, hk.2⟩ : _ ∧ k_ ≠ gb526))) (fun _ hk => hk.2) (.int .i64 ((rd_T26 t507 x72_3).f0.f0))) (fun _ hk => hk.2) (.int .i64 ((rd_T26 t507 x72_3).f0.f1))) (fun _ hk => hk.2) (.bool ((rd_T26 t507 x72_3).f0.f2))) (fun _ hk => hk.2) (.bool ((rd_T26 t507 x72_3).f0.f3))) (fun _ hk => hk.2) (.int .i64 ((rd_T26 t507 x72_3).f1.f0))) (fun _ hk => hk.2) (.int .i64 ((rd_T26 t507 x72_3).f1.f1))) (fun _ hk => hk.2) (.bool ((rd_T26 t507 x72_3).f1.f2))) (fun _ hk => hk.2) (.bool ((rd_T26 t507 x72_3).f1.f3))) (fun _ h_ => h_.1))) hb); have n1_ := Aside0.mk (Kd.R_below (by (with_reducible repeat (first | apply Kd.R_alloc | apply Kd.R_drewN | apply Kd.R_drew)); exact (Kd.R_mono (Kd.R_far (p := ⟨gb526, 7, none⟩) (Kd.R_far (p := ⟨gb526, 6, none⟩) (Kd.R_far (p := ⟨gb526, 5, none⟩) (Kd.R_far (p := ⟨gb526, 4, none⟩) (Kd.R_far (p := ⟨gb526, 3, none⟩) (Kd.R_far (p := ⟨gb526, 2, none⟩) (Kd.R_far (p := ⟨gb526, 1, none⟩) (Kd.R_far (p := ⟨gb526, 0, none⟩) (Kd.R_mono HO_70.out (fun k_ hk => (⟨hk, hk.2⟩ : _ ∧ k_ ≠ gb526))) (fun _ hk => hk.2) (.int .i64 ((rd_T26 t507 x72_3).f0.f0))) (fun _ hk => hk.2) (.int .i64 ((rd_T26 t507 x72_3).f0.f1))) (fun _ hk => hk.2) (.bool ((rd_T26 t507 x72_3).f0.f2))) (fun _ hk => hk.2) (.bool ((rd_T26 t507 x72_3).f0.f3))) (fun _ hk => hk.2) (.int .i64 ((rd_T26 t507 x72_3).f1.f0))) (fun _ hk => hk.2) (.int .i64 ((rd_T26 t507 x72_3).f1.f1))) (fun _ hk => hk.2) (.bool ((rd_T26 t507 x72_3).f1.f2))) (fun _ hk => hk.2) (.bool ((rd_T26 t507 x72_3).f1.f3))) (fun _ h_ => h_.1))) hb); have n2_ := Aside0.mk (z2q (cy BK495.out) hb); have n3_ := Aside0.mk (z2q (cy BK496.out) hb); have n4_ := Aside0.mk (z2q (cy BK506.out) hb); have n5_ := Aside0.mk (z2q (g := gb526) (o := .cells #[.int .i64 ((rd_T26 t507 x72_3).f0.f0), .int .i64 ((rd_T26 t507 x72_3).f0.f1), .bool ((rd_T26 t507 x72_3).f0.f2), .bool ((rd_T26 t507 x72_3).f0.f3), .int .i64 ((rd_T26 t507 x72_3).f1.f0), .int .i64 ((rd_T26 t507 x72_3).f1.f1), .bool ((rd_T26 t507 x72_3).f1.f2), .bool ((rd_T26 t507 x72_3).f1.f3)] 26 (0, 0)) (by refine cz ?_; refine z6q (cs := #[.int .i64 ((rd_T26 t507 x72_3).f0.f0), .int .i64 ((rd_T26 t507 x72_3).f0.f1), .bool ((rd_T26 t507 x72_3).f0.f2), .bool ((rd_T26 t507 x72_3).f0.f3), .int .i64 ((rd_T26 t507 x72_3).f1.f0), .int .i64 ((rd_T26 t507 x72_3).f1.f1), .bool ((rd_T26 t507 x72_3).f1.f2), .bool false]) ?_ 7 _ rfl; refine cz ?_; refine z6q (cs := #[.int .i64 ((rd_T26 t507 x72_3).f0.f0), .int .i64 ((rd_T26 t507 x72_3).f0.f1), .bool ((rd_T26 t507 x72_3).f0.f2), .bool ((rd_T26 t507 x72_3).f0.f3), .int .i64 ((rd_T26 t507 x72_3).f1.f0), .int .i64 ((rd_T26 t507 x72_3).f1.f1), .bool false, .bool false]) ?_ 6 _ rfl; refine cz ?_; refine z6q (cs := #[.int .i64 ((rd_T26 t507 x72_3).f0.f0), .int .i64 ((rd_T26 t507 x72_3).f0.f1), .bool ((rd_T26 t507 x72_3).f0.f2), .bool ((rd_T26 t507 x72_3).f0.f3), .int .i64 ((rd_T26 t507 x72_3).f1.f0), .int .i64 0, .bool false, .bool false]) ?_ 5 _ rfl; refine cz ?_; refine z6q (cs := #[.int .i64 ((rd_T26 t507 x72_3).f0.f0), .int .i64 ((rd_T26 t507 x72_3).f0.f1), .bool ((rd_T26 t507 x72_3).f0.f2), .bool ((rd_T26 t507 x72_3).f0.f3), .int .i64 0, .int .i64 0, .bool false, .bool false]) ?_ 4 _ rfl; refine cz ?_; refine z6q (cs := #[.int .i64 ((rd_T26 t507 x72_3).f0.f0), .int .i64 ((rd_T26 t507 x72_3).f0.f1), .bool ((rd_T26 t507 x72_3).f0.f2), .bool false, .int .i64 0, .int .i64 0, .bool false, .bool false]) ?_ 3 _ rfl; refine cz ?_; refine z6q (cs := #[.int .i64 ((rd_T26 t507 x72_3).f0.f0), .int .i64 ((rd_T26 t507 x72_3).f0.f1), .bool false, .bool false, .int .i64 0, .int .i64 0, .bool false, .bool false]) ?_ 2 _ rfl; refine cz ?_; refine z6q (cs := #[.int .i64 ((rd_T26 t507 x72_3).f0.f0), .int .i64 0, .bool false, .bool false, .int .i64 0, .int .i64 0, .bool false, .bool false]) ?_ 1 _ rfl; refine cz ?_; refine z6q (cs := #[.int .i64 0, .int .i64 0, .bool false, .bool false, .int .i64 0, .int .i64 0, .bool false, .bool false]) ?_ 0 _ rfl; exact cy BK526.out) hb); have n6_ := Aside0.mk (z8q (ibh HB.out) hb); clear HO_7; clear HO_70; clear BK495; clear BK496; clear BK506; clear BK526; clear HB; have HO_7 := n0_; have HO_70 := n1_; have BK495 := n2_; have BK496 := n3_; have BK506 := n4_; have BK526 := n5_; have HB := n6_; clear n0_ n1_ n2_ n3_ n4_ n5_ n6_; (try clear hb); (try clear hb2); (try clear hk); (try clear hi); have hcz91_0 : w90.cell? ⟨gb526, 0, none⟩ = some (.int .i64 ((rd_T26 t507 x72_3).f0.f0)) := (z0q BK526.out 0).trans rfl; have hcz91_1 : w90.cell? ⟨gb526, 1, none⟩ = some (.int .i64 ((rd_T26 t507 x72_3).f0.f1)) := (z0q BK526.out 1).trans rfl; have hcz91_2 : w90.cell? ⟨gb526, 2, none⟩ = some (.bool ((rd_T26 t507 x72_3).f0.f2)) := (z0q BK526.out 2).trans rfl; have hcz91_3 : w90.cell? ⟨gb526, 3, none⟩ = some (.bool ((rd_T26 t507 x72_3).f0.f3)) := (z0q BK526.out 3).trans rfl; have hcz91_4 : w90.cell? ⟨gb526, 4, none⟩ = some (.int .i64 ((rd_T26 t507 x72_3).f1.f0)) := (z0q BK526.out 4).trans rfl; have hcz91_5 : w90.cell? ⟨gb526, 5, none⟩ = some (.int .i64 ((rd_T26 t507 x72_3).f1.f1)) := (z0q BK526.out 5).trans rfl; have hcz91_6 : w90.cell? ⟨gb526, 6, none⟩ = some (.bool ((rd_T26 t507 x72_3).f1.f2)) := (z0q BK526.out 6).trans rfl; have hcz91_7 : w90.cell? ⟨gb526, 7, none⟩ = some (.bool ((rd_T26 t507 x72_3).f1.f3)) := (z0q BK526.out 7).trans rfl; have hfz91_0 := z1q BK526.out 0; have hfz91_1 := z1q BK526.out 1; have hfz91_2 := z1q BK526.out 2; have hfz91_3 := z1q BK526.out 3; have hfz91_4 := z1q BK526.out 4; have hfz91_5 := z1q BK526.out 5; have hfz91_6 := z1q BK526.out 6; have hfz91_7 := z1q BK526.out 7; have hnb92 := NB496_495.out; have hnc92 := NB495_496.out; have hnb93 := NB496_506.out; have hnc93 := NB506_496.out; have hcz94_0 : w90.cell? ⟨gb496, 0, none⟩ = some (.int .i64 t487) := (z0q BK496.out 0).trans rfl; have hcz94_1 : w90.cell? ⟨gb496, 1, none⟩ = some (.int .i64 t488) := (z0q BK496.out 1).trans rfl; have hcz94_2 : w90.cell? ⟨gb496, 2, none⟩ = some (.bool t489) := (z0q BK496.out 2).trans rfl; have hcz94_3 : w90.cell? ⟨gb496, 3, none⟩ = some (.bool t490) := (z0q BK496.out 3).trans rfl; have hcz94_4 : w90.cell? ⟨gb496, 4, none⟩ = some (.int .i64 t491) := (z0q BK496.out 4).trans rfl; have hcz94_5 : w90.cell? ⟨gb496, 5, none⟩ = some (.int .i64 t492) := (z0q BK496.out 5).trans rfl; have hcz94_6 : w90.cell? ⟨gb496, 6, none⟩ = some (.bool t493) := (z0q BK496.out 6).trans rfl; have hcz94_7 : w90.cell? ⟨gb496, 7, none⟩ = some (.bool t494) := (z0q BK496.out 7).trans rfl; have hfz94_0 := z1q BK496.out 0; have hfz94_1 := z1q BK496.out 1; have hfz94_2 := z1q BK496.out 2; have hfz94_3 := z1q BK496.out 3; have hfz94_4 := z1q BK496.out 4; have hfz94_5 := z1q BK496.out 5; have hfz94_6 := z1q BK496.out 6; have hfz94_7 := z1q BK496.out 7) | ((with_reducible refine z15q (f := 12) rfl ?_); refine z23q (some 84) rfl rfl Try.func12 (by kernel_rfl) rfl #[.agg #[.int .i64 ((rd_T26 t507 x72_3).f0.f0), .int .i64 ((rd_T26 t507 x72_3).f0.f1), .bool ((rd_T26 t507 x72_3).f0.f2), .bool ((rd_T26 t507 x72_3).f0.f3), .int .i64 ((rd_T26 t507 x72_3).f1.f0), .int .i64 ((rd_T26 t507 x72_3).f1.f1), .bool ((rd_T26 t507 x72_3).f1.f2), .bool ((rd_T26 t507 x72_3).f1.f3)], .agg #[.int .i64 t487, .int .i64 t488, .bool t489, .bool t490, .int .i64 t491, .int .i64 t492, .bool t493, .bool t494]] rfl (by (try simp only [map_toArray, map_cons, map_nil]); first | done | rfl | (simp only [length_drop, length_take]; rfl)) ?_; (with_reducible refine (spec_Meet.calls k3 ((rd_T26 t507 x72_3).f0.f0) ((rd_T26 t507 x72_3).f0.f1) ((rd_T26 t507 x72_3).f0.f2) ((rd_T26 t507 x72_3).f0.f3) ((rd_T26 t507 x72_3).f1.f0) ((rd_T26 t507 x72_3).f1.f1) ((rd_T26 t507 x72_3).f1.f2) ((rd_T26 t507 x72_3).f1.f3) t487 t488 t489 t490 t491 t492 t493 t494 t528 t529 t530 t531 t532 t533 t534 t535 false _ A64.out).mono ?_); rintro e w95 ⟨rfl, hb⟩; refine ⟨_, rfl, ?_⟩; have n0_ := Aside0.mk (Kd.R_below (ro HO_7.out) hb); have n1_ := Aside0.mk (Kd.R_below (ro HO_70.out) hb); have n2_ := Aside0.mk (z2q (cy BK495.out) hb); have n3_ := Aside0.mk (z2q (cy BK496.out) hb); have n4_ := Aside0.mk (z2q (cy BK506.out) hb); have n5_ := Aside0.mk (z2q (cy BK526.out) hb); have n6_ := Aside0.mk (z8q (ibh HB.out) hb); clear HO_7; clear HO_70; clear BK495; clear BK496; clear BK506; clear BK526; clear HB; have HO_7 := n0_; have HO_70 := n1_; have BK495 := n2_; have BK496 := n3_; have BK506 := n4_; have BK526 := n5_; have HB := n6_; clear n0_ n1_ n2_ n3_ n4_ n5_ n6_; (try clear hb); (try clear hb2); (try clear hk); (try clear hi)) | ((with_reducible refine z22q (N := 11) rfl ?_); (try (refine gate_guard (by rfl) ?_; dsimp only)); refine z20q ?hg (N := 11) ?hd (cs := #[.int .i64 0, .int .i64 0, .bool false, .bool false, .int .i64 0, .int .i64 0, .bool false, .bool false]) (t := 26) ?hr ?_; (case hd => rfl); (case hg => rfl); (case hr => first | (go_simp; done) | (go_simp; rfl)); intro gb537 hg w96 hbox hb; have n0_ := Aside0.mk (Kd.R_below (Kd.R_elderB (ro HO_7.out) gb537 (Nat.le_of_eq hg.symm)) hb); have n1_ := Aside0.mk (Kd.R_below (Kd.R_elderB (ro HO_70.out) gb537 (Nat.le_of_eq hg.symm)) hb); have n2_ := Aside0.mk (z2q (cy BK495.out) hb); have n3_ := Aside0.mk (z2q (cy BK496.out) hb); have n4_ := Aside0.mk (z2q (cy BK506.out) hb); have n5_ := Aside0.mk (z2q (cy BK526.out) hb); have n6_ := Aside0.mk (z8q (ibh HB.out) hb); have n7_ := Aside0.mk (hbox); have n8_ := Aside0.mk ((by rw [hg]; exact (z13q (ibh HB.out)) : w.heap.size ≤ gb537)); have n9_ := Aside0.mk ((by rw [hg]; exact (z13q (ibh HB.out)) : w.heap.size ≤ gb537)); have n10_ := Aside0.mk ((by rw [hg]; exact Nat.ne_of_lt (z14q (cy BK495.out)) : gb495 ≠ gb537)); have n11_ := Aside0.mk ((by rw [hg]; exact Nat.ne_of_gt (z14q (cy BK495.out)) : gb537 ≠ gb495)); have n12_ := Aside0.mk ((by rw [hg]; exact Nat.ne_of_lt (z14q (cy BK496.out)) : gb496 ≠ gb537)); have n13_ := Aside0.mk ((by rw [hg]; exact Nat.ne_of_gt (z14q (cy BK496.out)) : gb537 ≠ gb496)); have n14_ := Aside0.mk ((by rw [hg]; exact Nat.ne_of_lt (z14q (cy BK506.out)) : gb506 ≠ gb537)); have n15_ := Aside0.mk ((by rw [hg]; exact Nat.ne_of_gt (z14q (cy BK506.out)) : gb537 ≠ gb506)); have n16_ := Aside0.mk ((by rw [hg]; exact Nat.ne_of_lt (z14q (cy BK526.out)) : gb526 ≠ gb537)); have n17_ := Aside0.mk ((by rw [hg]; exact Nat.ne_of_gt (z14q (cy BK526.out)) : gb537 ≠ gb526)); clear HO_7; clear HO_70; clear BK495; clear BK496; clear BK506; clear BK526; clear HB; have HO_7 := n0_; have HO_70 := n1_; have BK495 := n2_; have BK496 := n3_; have BK506 := n4_; have BK526 := n5_; have HB := n6_; have BK537 := n7_; have GW537 := n8_; have GE537 := n9_; have NB495_537 := n10_; have NB537_495 := n11_; have NB496_537 := n12_; have NB537_496 := n13_; have NB506_537 := n14_; have NB537_506 := n15_; have NB526_537 := n16_; have NB537_526 := n17_; clear n0_ n1_ n2_ n3_ n4_ n5_ n6_ n7_ n8_ n9_ n10_ n11_ n12_ n13_ n14_ n15_ n16_ n17_; clear hb hbox hg; have hnb97 := NB537_495.out; have hnc97 := NB495_537.out; have hnb98 := NB537_496.out; have hnc98 := NB496_537.out; have hnb99 := NB537_506.out; have hnc99 := NB506_537.out; have hnb100 := NB537_526.out; have hnc100 := NB526_537.out; have hcz101_0 : w96.cell? ⟨gb537, 0, none⟩ = some (.int .i64 0) := (z0q BK537.out 0).trans rfl; have hcz101_1 : w96.cell? ⟨gb537, 1, none⟩ = some (.int .i64 0) := (z0q BK537.out 1).trans rfl; have hcz101_2 : w96.cell? ⟨gb537, 2, none⟩ = some (.bool false) := (z0q BK537.out 2).trans rfl; have hcz101_3 : w96.cell? ⟨gb537, 3, none⟩ = some (.bool false) := (z0q BK537.out 3).trans rfl; have hcz101_4 : w96.cell? ⟨gb537, 4, none⟩ = some (.int .i64 0) := (z0q BK537.out 4).trans rfl; have hcz101_5 : w96.cell? ⟨gb537, 5, none⟩ = some (.int .i64 0) := (z0q BK537.out 5).trans rfl; have hcz101_6 : w96.cell? ⟨gb537, 6, none⟩ = some (.bool false) := (z0q BK537.out 6).trans rfl; have hcz101_7 : w96.cell? ⟨gb537, 7, none⟩ = some (.bool false) := (z0q BK537.out 7).trans rfl; have hfz101_0 := z1q BK537.out 0; have hfz101_1 := z1q BK537.out 1; have hfz101_2 := z1q BK537.out 2; have hfz101_3 := z1q BK537.out 3; have hfz101_4 := z1q BK537.out 4; have hfz101_5 := z1q BK537.out 5; have hfz101_6 := z1q BK537.out 6; have hfz101_7 := z1q BK537.out 7) | ((with_reducible refine gate_store (t := 26) (p := 11) rfl ?_); refine store_event (t := 26) (p := 11) (v := ?vo_w102) (w1 := ((((((((w96.setCell ⟨gb537, 0, none⟩ (.int .i64 t528)).setCell ⟨gb537, 1, none⟩ (.int .i64 t529)).setCell ⟨gb537, 2, none⟩ (.bool t530)).setCell ⟨gb537, 3, none⟩ (.bool t531)).setCell ⟨gb537, 4, none⟩ (.int .i64 t532)).setCell ⟨gb537, 5, none⟩ (.int .i64 t533)).setCell ⟨gb537, 6, none⟩ (.bool t534)).setCell ⟨gb537, 7, none⟩ (.bool t535))) ?hg ?ho ?hn ?hr ?_; (case ho => rfl); (case hg => rfl); (case hn => rfl); (case hr => first | (go_simp; done) | (go_simp; rfl)); intro w102 hw; have n0_ : Aside0 (Kd.R k26 26 w102 w.heap.size (fun k_ => k_ ≠ gb495 ∧ k_ ≠ gb496 ∧ k_ ≠ gb506 ∧ k_ ≠ gb526 ∧ k_ ≠ gb537) (.slice (some ad525) t507.length co27) t507) := ⟨(by rw [hw]; exact (by (with_reducible repeat (first | apply Kd.R_alloc | apply Kd.R_drewN | apply Kd.R_drew)); exact Kd.R_mono (Kd.R_far (p := ⟨gb537, 7, none⟩) (Kd.R_far (p := ⟨gb537, 6, none⟩) (Kd.R_far (p := ⟨gb537, 5, none⟩) (Kd.R_far (p := ⟨gb537, 4, none⟩) (Kd.R_far (p := ⟨gb537, 3, none⟩) (Kd.R_far (p := ⟨gb537, 2, none⟩) (Kd.R_far (p := ⟨gb537, 1, none⟩) (Kd.R_far (p := ⟨gb537, 0, none⟩) (Kd.R_mono HO_7.out (fun k_ hk => (⟨hk, hk.2⟩ : _ ∧ k_ ≠ gb537))) (fun _ hk => hk.2) (.int .i64 t528)) (fun _ hk => hk.2) (.int .i64 t529)) (fun _ hk => hk.2) (.bool t530)) (fun _ hk => hk.2) (.bool t531)) (fun _ hk => hk.2) (.int .i64 t532)) (fun _ hk => hk.2) (.int .i64 t533)) (fun _ hk => hk.2) (.bool t534)) (fun _ hk => hk.2) (.bool t535)) (fun _ hk => ⟨hk.1.1.1.1, ⟨hk.1.1.1.2.1, ⟨hk.1.1.1.2.2, ⟨hk.1.1.2, hk.1.2⟩⟩⟩⟩)))⟩; have n1_ : Aside0 (Kd.R k26 26 w102 w.heap.size (fun k_ => k_ ≠ gb495 ∧ k_ ≠ gb496 ∧ k_ ≠ gb506 ∧ k_ ≠ gb526 ∧ k_ ≠ gb537) (.slice (some ad525) t507.length co27) t507) := ⟨(by rw [hw]; exact (by (with_reducible repeat (first | apply Kd.R_alloc | apply Kd.R_drewN | apply Kd.R_drew)); exact Kd.R_mono (Kd.R_far (p := ⟨gb537, 7, none⟩) (Kd.R_far (p := ⟨gb537, 6, none⟩) (Kd.R_far (p := ⟨gb537, 5, none⟩) (Kd.R_far (p := ⟨gb537, 4, none⟩) (Kd.R_far (p := ⟨gb537, 3, none⟩) (Kd.R_far (p := ⟨gb537, 2, none⟩) (Kd.R_far (p := ⟨gb537, 1, none⟩) (Kd.R_far (p := ⟨gb537, 0, none⟩) (Kd.R_mono HO_70.out (fun k_ hk => (⟨hk, hk.2⟩ : _ ∧ k_ ≠ gb537))) (fun _ hk => hk.2) (.int .i64 t528)) (fun _ hk => hk.2) (.int .i64 t529)) (fun _ hk => hk.2) (.bool t530)) (fun _ hk => hk.2) (.bool t531)) (fun _ hk => hk.2) (.int .i64 t532)) (fun _ hk => hk.2) (.int .i64 t533)) (fun _ hk => hk.2) (.bool t534)) (fun _ hk => hk.2) (.bool t535)) (fun _ hk => ⟨hk.1.1.1.1, ⟨hk.1.1.1.2.1, ⟨hk.1.1.1.2.2, ⟨hk.1.1.2, hk.1.2⟩⟩⟩⟩)))⟩; have n2_ : Aside0 (w102.heap[gb495]? = some (.cells #[.int .i64 t479, .int .i64 t480, .bool t481, .bool t482, .int .i64 t483, .int .i64 t484, .bool t485, .bool t486] 26 (0, 0))) := ⟨(by rw [hw]; exact (cy BK495.out))⟩; have n3_ : Aside0 (w102.heap[gb496]? = some (.cells #[.int .i64 t487, .int .i64 t488, .bool t489, .bool t490, .int .i64 t491, .int .i64 t492, .bool t493, .bool t494] 26 (0, 0))) := ⟨(by rw [hw]; exact (cy BK496.out))⟩; have n4_ : Aside0 (w102.heap[gb506]? = some (.cells #[.int .i64 t497, .int .i64 t498, .bool t499, .bool t500, .int .i64 t501, .int .i64 t502, .bool t503, .bool t504] 26 (0, 0))) := ⟨(by rw [hw]; exact (cy BK506.out))⟩; have n5_ : Aside0 (w102.heap[gb526]? = some (.cells #[.int .i64 ((rd_T26 t507 x72_3).f0.f0), .int .i64 ((rd_T26 t507 x72_3).f0.f1), .bool ((rd_T26 t507 x72_3).f0.f2), .bool ((rd_T26 t507 x72_3).f0.f3), .int .i64 ((rd_T26 t507 x72_3).f1.f0), .int .i64 ((rd_T26 t507 x72_3).f1.f1), .bool ((rd_T26 t507 x72_3).f1.f2), .bool ((rd_T26 t507 x72_3).f1.f3)] 26 (0, 0))) := ⟨(by rw [hw]; exact (cy BK526.out))⟩; have n6_ : Aside0 (w102.heap[gb537]? = some (.cells #[.int .i64 t528, .int .i64 t529, .bool t530, .bool t531, .int .i64 t532, .int .i64 t533, .bool t534, .bool t535] 26 (0, 0))) := ⟨(by rw [hw]; exact (by refine cz ?_; refine z6q (cs := #[.int .i64 t528, .int .i64 t529, .bool t530, .bool t531, .int .i64 t532, .int .i64 t533, .bool t534, .bool false]) ?_ 7 _ rfl; refine cz ?_; refine z6q (cs := #[.int .i64 t528, .int .i64 t529, .bool t530, .bool t531, .int .i64 t532, .int .i64 t533, .bool false, .bool false]) ?_ 6 _ rfl; refine cz ?_; refine z6q (cs := #[.int .i64 t528, .int .i64 t529, .bool t530, .bool t531, .int .i64 t532, .int .i64 0, .bool false, .bool false]) ?_ 5 _ rfl; refine cz ?_; refine z6q (cs := #[.int .i64 t528, .int .i64 t529, .bool t530, .bool t531, .int .i64 0, .int .i64 0, .bool false, .bool false]) ?_ 4 _ rfl; refine cz ?_; refine z6q (cs := #[.int .i64 t528, .int .i64 t529, .bool t530, .bool false, .int .i64 0, .int .i64 0, .bool false, .bool false]) ?_ 3 _ rfl; refine cz ?_; refine z6q (cs := #[.int .i64 t528, .int .i64 t529, .bool false, .bool false, .int .i64 0, .int .i64 0, .bool false, .bool false]) ?_ 2 _ rfl; refine cz ?_; refine z6q (cs := #[.int .i64 t528, .int .i64 0, .bool false, .bool false, .int .i64 0, .int .i64 0, .bool false, .bool false]) ?_ 1 _ rfl; refine cz ?_; refine z6q (cs := #[.int .i64 0, .int .i64 0, .bool false, .bool false, .int .i64 0, .int .i64 0, .bool false, .bool false]) ?_ 0 _ rfl; exact cy BK537.out))⟩; have n7_ : Aside0 (Below w.heap.size w w102) := ⟨(by rw [hw]; exact (ibh HB.out))⟩; clear hw; clear HO_7; clear HO_70; clear BK495; clear BK496; clear BK506; clear BK526; clear BK537; clear HB; have HO_7 := n0_; have HO_70 := n1_; have BK495 := n2_; have BK496 := n3_; have BK506 := n4_; have BK526 := n5_; have BK537 := n6_; have HB := n7_; clear n0_ n1_ n2_ n3_ n4_ n5_ n6_ n7_; have q103 : (x72_3 : Int) ≤ ((t507.length : Int) : Int) := of_decide_eq_true (by first | (with_reducible assumption) | assumption); obtain ⟨i0103, hi0103, _, hsz103, _⟩ := info_parts info26; have hroom103 : t507.length ≤ co27 := (Kd.R_reads' HO_7.out).2.1; have hC103 : Kd.C k26 _ (some ad525) t507.length t507 := (Kd.R_reads' HO_7.out).2.2; have hcut103 := cut_to (P := Try.prog) 31 26 .i64 Try.underlying31 hi0103 (some ad525) t507.length co27 x72_3 (of_decide_eq_true (by first | (with_reducible assumption) | assumption)) q103 hroom103; have hr103 := Kd.C_take (m := (x72_3 : Int).toNat) hC103 (by omega); have hy103 : y538.length = (x72_3 : Int).toNat := (by rw [Ny538.out, length_take]; omega); rw [← Ny538.out] at hr103; rw [← hy103] at hcut103; have HR541 := Aside0.mk hr103; have HC541 := Aside0.mk (show y538.length ≤ co27 from by omega); clear hr103 hC103 hroom103 hi0103 hsz103; have KY103 := Aside0.mk hy103; clear hy103; have KL103 := Aside0.mk (show (x72_3 : Int).toNat ≤ t507.length from by omega); replace q103 := eq_true q103))
             go_loopg [92] k3 (fun kq v92 w' => ∃ (x92_4 : Int), v92 = .int .i64 x92_4 ∧ Aside0 (laws_FnAreas.l1 kq t507 (wrap64 (x8_3 + t527)) t507 (t507.length : Int) x72_3 y538 (y538.length : Int) x92_4 t479 t480 t481 t482 t483 t484 t485 t486 t487 t488 t489 t490 t491 t492 t493 t494 ((rd_T26 t507 x72_3).f0.f0) ((rd_T26 t507 x72_3).f0.f1) ((rd_T26 t507 x72_3).f0.f2) ((rd_T26 t507 x72_3).f0.f3) ((rd_T26 t507 x72_3).f1.f0) ((rd_T26 t507 x72_3).f1.f1) ((rd_T26 t507 x72_3).f1.f2) ((rd_T26 t507 x72_3).f1.f3) = some r) ∧ Aside0 (kq ≤ k3) ∧ Aside0 (Kd.R k26 26 w' w.heap.size (fun k_ => k_ ≠ gb495 ∧ k_ ≠ gb496 ∧ k_ ≠ gb506 ∧ k_ ≠ gb526 ∧ k_ ≠ gb537) (.slice (some ad525) t507.length co27) t507) ∧ Aside0 (Kd.R k26 26 w' w.heap.size (fun k_ => k_ ≠ gb495 ∧ k_ ≠ gb496 ∧ k_ ≠ gb506 ∧ k_ ≠ gb526 ∧ k_ ≠ gb537) (.slice (some ad525) t507.length co27) t507) ∧ Aside0 (w'.heap[gb495]? = some (.cells #[.int .i64 t479, .int .i64 t480, .bool t481, .bool t482, .int .i64 t483, .int .i64 t484, .bool t485, .bool t486] 26 (0, 0))) ∧ Aside0 (w'.heap[gb496]? = some (.cells #[.int .i64 t487, .int .i64 t488, .bool t489, .bool t490, .int .i64 t491, .int .i64 t492, .bool t493, .bool t494] 26 (0, 0))) ∧ Aside0 (w'.heap[gb506]? = some (.cells #[.int .i64 t497, .int .i64 t498, .bool t499, .bool t500, .int .i64 t501, .int .i64 t502, .bool t503, .bool t504] 26 (0, 0))) ∧ Aside0 (w'.heap[gb526]? = some (.cells #[.int .i64 ((rd_T26 t507 x72_3).f0.f0), .int .i64 ((rd_T26 t507 x72_3).f0.f1), .bool ((rd_T26 t507 x72_3).f0.f2), .bool ((rd_T26 t507 x72_3).f0.f3), .int .i64 ((rd_T26 t507 x72_3).f1.f0), .int .i64 ((rd_T26 t507 x72_3).f1.f1), .bool ((rd_T26 t507 x72_3).f1.f2), .bool ((rd_T26 t507 x72_3).f1.f3)] 26 (0, 0))) ∧ Aside0 (w'.heap[gb537]? = some (.cells #[.int .i64 t528, .int .i64 t529, .bool t530, .bool t531, .int .i64 t532, .int .i64 t533, .bool t534, .bool t535] 26 (0, 0))) ∧ Aside0 (Kd.C k26 w' (some ad525) y538.length y538) ∧ Aside0 (Below w.heap.size w w'))
             case atStart => exact ⟨(0), (by first | rfl | (simp; done) | (simp [*]; done) | (simp; unfold wrap64; omega)), H', ⟨Nat.le_refl _⟩, ⟨by (with_reducible repeat (first | apply Kd.R_alloc | apply Kd.R_drewN | apply Kd.R_drew)); exact HO_7.out⟩, ⟨by (with_reducible repeat (first | apply Kd.R_alloc | apply Kd.R_drewN | apply Kd.R_drew)); exact HO_70.out⟩, ⟨by (with_reducible repeat (first | refine z11q ?_ _ | refine z10q ?_ | refine z4q ?_ _)); exact BK495.out⟩, ⟨by (with_reducible repeat (first | refine z11q ?_ _ | refine z10q ?_ | refine z4q ?_ _)); exact BK496.out⟩, ⟨by (with_reducible repeat (first | refine z11q ?_ _ | refine z10q ?_ | refine z4q ?_ _)); exact BK506.out⟩, ⟨by (with_reducible repeat (first | refine z11q ?_ _ | refine z10q ?_ | refine z4q ?_ _)); exact BK526.out⟩, ⟨by (with_reducible repeat (first | refine z11q ?_ _ | refine z10q ?_ | refine z4q ?_ _)); exact BK537.out⟩, ⟨by repeat (first | (with_reducible exact HR541.out) | (with_reducible refine Kd.C_alloc ?_ _) | (with_reducible refine Kd.C_drewN ?_ _) | (with_reducible refine Kd.C_drew ?_) | exact HR541.out)⟩, ⟨by repeat (first | (with_reducible first | exact HB.out | apply z7q | apply z5q | apply z12q | refine z3q ?_ GE495.out | refine z3q ?_ GE496.out | refine z3q ?_ GE506.out | refine z3q ?_ GE526.out | refine z3q ?_ GE537.out) | exact HB.out)⟩⟩
             case round =>
              clear H'
              try clear c1
              try clear q1
              try clear c2
              try clear c2b0
              try clear c2b1
              try clear p2
              try clear c3
              try clear c4
              try clear c5
              try clear p5
              try clear q5
              try clear hx5
              try clear c6
              try clear p6
              try clear c7
              try clear c8
              try clear c9
              try clear c10
              try clear q10
              try clear c11
              try clear c12
              try clear c13
              try clear c18
              try clear c19
              try clear c30
              try clear c32
              try clear c33
              try clear c36
              try clear c39
              try clear c40
              try clear c43
              try clear c44
              try clear c45
              try clear c45b0
              try clear c45b1
              try clear c45b2
              try clear c47
              try clear c48
              try clear c50
              try clear p52
              try clear q52
              try clear hx52
              try clear c54
              try clear c56
              try clear c57
              try clear c60
              try clear c60b0
              try clear c61
              try clear c61b0
              try clear c62
              try clear c62b0
              try clear p64
              try clear c65
              try clear c67
              try clear c68
              try clear c69
              try clear c73
              try clear c74
              try clear c78
              try clear c79
              try clear c80
              try clear c81
              try clear c83
              try clear c83b0
              try clear c84
              try clear c84b0
              try clear c84b1
              try clear c86
              try clear c87
              try clear c88
              try clear c92
              try clear c93
              try clear c97
              try clear c98
              try clear c99
              try clear c100
              try clear q103
              try clear hcz101_0
              try clear hcz101_1
              try clear hcz101_2
              try clear hcz101_3
              try clear hcz101_4
              try clear hcz101_5
              try clear hcz101_6
              try clear hcz101_7
              try clear hcz14_0
              try clear hcz14_1
              try clear hcz14_2
              try clear hcz14_3
              try clear hcz14_4
              try clear hcz14_5
              try clear hcz14_6
              try clear hcz14_7
              try clear hcz15_0
              try clear hcz15_1
              try clear hcz15_2
              try clear hcz15_3
              try clear hcz15_4
              try clear hcz15_5
              try clear hcz15_6
              try clear hcz15_7
              try clear hcz20_0
              try clear hcz20_1
              try clear hcz20_2
              try clear hcz20_3
              try clear hcz20_4
              try clear hcz20_5
              try clear hcz20_6
              try clear hcz20_7
              try clear hcz21_0
              try clear hcz21_1
              try clear hcz21_2
              try clear hcz21_3
              try clear hcz21_4
              try clear hcz21_5
              try clear hcz21_6
              try clear hcz21_7
              try clear hcz22_0
              try clear hcz22_1
              try clear hcz22_2
              try clear hcz22_3
              try clear hcz22_4
              try clear hcz22_5
              try clear hcz22_6
              try clear hcz22_7
              try clear hcz24_0
              try clear hcz24_1
              try clear hcz24_2
              try clear hcz24_3
              try clear hcz24_4
              try clear hcz24_5
              try clear hcz24_6
              try clear hcz24_7
              try clear hcz25_0
              try clear hcz25_1
              try clear hcz25_2
              try clear hcz25_3
              try clear hcz25_4
              try clear hcz25_5
              try clear hcz25_6
              try clear hcz25_7
              try clear hcz34_0
              try clear hcz34_1
              try clear hcz34_2
              try clear hcz34_3
              try clear hcz34_4
              try clear hcz34_5
              try clear hcz34_6
              try clear hcz34_7
              try clear hcz37_0
              try clear hcz37_1
              try clear hcz37_2
              try clear hcz37_3
              try clear hcz37_4
              try clear hcz37_5
              try clear hcz37_6
              try clear hcz37_7
              try clear hcz41_0
              try clear hcz41_1
              try clear hcz41_2
              try clear hcz41_3
              try clear hcz41_4
              try clear hcz41_5
              try clear hcz41_6
              try clear hcz41_7
              try clear hcz49_0
              try clear hcz49_1
              try clear hcz49_2
              try clear hcz49_3
              try clear hcz49_4
              try clear hcz49_5
              try clear hcz49_6
              try clear hcz49_7
              try clear hcz51_0
              try clear hcz51_1
              try clear hcz51_2
              try clear hcz51_3
              try clear hcz51_4
              try clear hcz51_5
              try clear hcz51_6
              try clear hcz51_7
              try clear hcz58_0
              try clear hcz58_1
              try clear hcz58_2
              try clear hcz58_3
              try clear hcz58_4
              try clear hcz58_5
              try clear hcz58_6
              try clear hcz58_7
              try clear hcz70_0
              try clear hcz70_1
              try clear hcz70_2
              try clear hcz70_3
              try clear hcz70_4
              try clear hcz70_5
              try clear hcz70_6
              try clear hcz70_7
              try clear hcz72_0
              try clear hcz72_1
              try clear hcz72_2
              try clear hcz72_3
              try clear hcz72_4
              try clear hcz72_5
              try clear hcz72_6
              try clear hcz72_7
              try clear hcz75_0
              try clear hcz75_1
              try clear hcz75_2
              try clear hcz75_3
              try clear hcz75_4
              try clear hcz75_5
              try clear hcz75_6
              try clear hcz75_7
              try clear hcz82_0
              try clear hcz82_1
              try clear hcz82_2
              try clear hcz82_3
              try clear hcz82_4
              try clear hcz82_5
              try clear hcz82_6
              try clear hcz82_7
              try clear hcz89_0
              try clear hcz89_1
              try clear hcz89_2
              try clear hcz89_3
              try clear hcz89_4
              try clear hcz89_5
              try clear hcz89_6
              try clear hcz89_7
              try clear hcz91_0
              try clear hcz91_1
              try clear hcz91_2
              try clear hcz91_3
              try clear hcz91_4
              try clear hcz91_5
              try clear hcz91_6
              try clear hcz91_7
              try clear hcz94_0
              try clear hcz94_1
              try clear hcz94_2
              try clear hcz94_3
              try clear hcz94_4
              try clear hcz94_5
              try clear hcz94_6
              try clear hcz94_7
              try clear hfz101_0
              try clear hfz101_1
              try clear hfz101_2
              try clear hfz101_3
              try clear hfz101_4
              try clear hfz101_5
              try clear hfz101_6
              try clear hfz101_7
              try clear hfz14_0
              try clear hfz14_1
              try clear hfz14_2
              try clear hfz14_3
              try clear hfz14_4
              try clear hfz14_5
              try clear hfz14_6
              try clear hfz14_7
              try clear hfz15_0
              try clear hfz15_1
              try clear hfz15_2
              try clear hfz15_3
              try clear hfz15_4
              try clear hfz15_5
              try clear hfz15_6
              try clear hfz15_7
              try clear hfz20_0
              try clear hfz20_1
              try clear hfz20_2
              try clear hfz20_3
              try clear hfz20_4
              try clear hfz20_5
              try clear hfz20_6
              try clear hfz20_7
              try clear hfz21_0
              try clear hfz21_1
              try clear hfz21_2
              try clear hfz21_3
              try clear hfz21_4
              try clear hfz21_5
              try clear hfz21_6
              try clear hfz21_7
              try clear hfz22_0
              try clear hfz22_1
              try clear hfz22_2
              try clear hfz22_3
              try clear hfz22_4
              try clear hfz22_5
              try clear hfz22_6
              try clear hfz22_7
              try clear hfz24_0
              try clear hfz24_1
              try clear hfz24_2
              try clear hfz24_3
              try clear hfz24_4
              try clear hfz24_5
              try clear hfz24_6
              try clear hfz24_7
              try clear hfz25_0
              try clear hfz25_1
              try clear hfz25_2
              try clear hfz25_3
              try clear hfz25_4
              try clear hfz25_5
              try clear hfz25_6
              try clear hfz25_7
              try clear hfz34_0
              try clear hfz34_1
              try clear hfz34_2
              try clear hfz34_3
              try clear hfz34_4
              try clear hfz34_5
              try clear hfz34_6
              try clear hfz34_7
              try clear hfz37_0
              try clear hfz37_1
              try clear hfz37_2
              try clear hfz37_3
              try clear hfz37_4
              try clear hfz37_5
              try clear hfz37_6
              try clear hfz37_7
              try clear hfz41_0
              try clear hfz41_1
              try clear hfz41_2
              try clear hfz41_3
              try clear hfz41_4
              try clear hfz41_5
              try clear hfz41_6
              try clear hfz41_7
              try clear hfz49_0
              try clear hfz49_1
              try clear hfz49_2
              try clear hfz49_3
              try clear hfz49_4
              try clear hfz49_5
              try clear hfz49_6
              try clear hfz49_7
              try clear hfz51_0
              try clear hfz51_1
              try clear hfz51_2
              try clear hfz51_3
              try clear hfz51_4
              try clear hfz51_5
              try clear hfz51_6
              try clear hfz51_7
              try clear hfz58_0
              try clear hfz58_1
              try clear hfz58_2
              try clear hfz58_3
              try clear hfz58_4
              try clear hfz58_5
              try clear hfz58_6
              try clear hfz58_7
              try clear hfz70_0
              try clear hfz70_1
              try clear hfz70_2
              try clear hfz70_3
              try clear hfz70_4
              try clear hfz70_5
              try clear hfz70_6
              try clear hfz70_7
              try clear hfz72_0
              try clear hfz72_1
              try clear hfz72_2
              try clear hfz72_3
              try clear hfz72_4
              try clear hfz72_5
              try clear hfz72_6
              try clear hfz72_7
              try clear hfz75_0
              try clear hfz75_1
              try clear hfz75_2
              try clear hfz75_3
              try clear hfz75_4
              try clear hfz75_5
              try clear hfz75_6
              try clear hfz75_7
              try clear hfz82_0
              try clear hfz82_1
              try clear hfz82_2
              try clear hfz82_3
              try clear hfz82_4
              try clear hfz82_5
              try clear hfz82_6
              try clear hfz82_7
              try clear hfz89_0
              try clear hfz89_1
              try clear hfz89_2
              try clear hfz89_3
              try clear hfz89_4
              try clear hfz89_5
              try clear hfz89_6
              try clear hfz89_7
              try clear hfz91_0
              try clear hfz91_1
              try clear hfz91_2
              try clear hfz91_3
              try clear hfz91_4
              try clear hfz91_5
              try clear hfz91_6
              try clear hfz91_7
              try clear hfz94_0
              try clear hfz94_1
              try clear hfz94_2
              try clear hfz94_3
              try clear hfz94_4
              try clear hfz94_5
              try clear hfz94_6
              try clear hfz94_7
              try clear hx525_0
              try clear hx525_1
              try clear hx525_2
              try clear hx525_3
              try clear hx525_4
              try clear hx525_5
              try clear hx525_6
              try clear hx525_7
              try clear p2
              try clear p525
              try clear q103
              try clear q525
              obtain ⟨x92_4, rfl, HA, HK4, HO_7, HO_70, BK495, BK496, BK506, BK526, BK537, HR541, HB⟩ := hrel
              cases gk with
              | zero => exact absurd HA.out (by simp [laws_FnAreas.l1])
              | succ k4 =>
               have H := HA.out
               clear HA
               simp only [laws_FnAreas.l1] at H
               by_cases c104 : x92_4 < (y538.length : Int)
               ·rw [if_pos c104] at H
                have c104b0 : decide (x92_4 < (y538.length : Int)) = true := decide_eq_true c104
                clear c104
                by_cases c105 : 0 ≤ x92_4
                ·rw [if_pos c105] at H
                 have c105b0 : decide (0 ≤ x92_4) = true := decide_eq_true c105
                 clear c105
                 by_cases c106 : x92_4 < (y538.length : Int)
                 ·rw [if_pos c106] at H
                  have c106b0 : decide (x92_4 < (y538.length : Int)) = true := decide_eq_true c106
                  clear c106
                  replace H := Option.bind_eq_some_iff.mp H
                  obtain ⟨⟨t544, t545, t546, t547, t548, t549, t550, t551, t552⟩, A1070, H⟩ := H
                  replace H : (if t552 = true then (some false) else (laws_FnAreas.l1 k4 t507 (wrap64 (x8_3 + t527)) t507 (t507.length : Int) x72_3 y538 (y538.length : Int) (wrap64 (x92_4 + 1)) t479 t480 t481 t482 t483 t484 t485 t486 t487 t488 t489 t490 t491 t492 t493 t494 ((rd_T26 t507 x72_3).f0.f0) ((rd_T26 t507 x72_3).f0.f1) ((rd_T26 t507 x72_3).f0.f2) ((rd_T26 t507 x72_3).f0.f3) ((rd_T26 t507 x72_3).f1.f0) ((rd_T26 t507 x72_3).f1.f1) ((rd_T26 t507 x72_3).f1.f2) ((rd_T26 t507 x72_3).f1.f3))) = some r := H
                  have A107 := Aside0.mk A1070
                  clear A1070
                  by_cases c108 : t552 = true
                  ·subst c108
                   have H1 : (some false) = some r := by rw [if_pos rfl] at H; exact H
                   clear H
                   have H := H1
                   clear H1
                   exact absurd ((Option.some.inj H).trans hr) (by decide)
                  ·replace c108 := Bool.eq_false_iff.mpr c108
                   subst c108
                   have H1 : (laws_FnAreas.l1 k4 t507 (wrap64 (x8_3 + t527)) t507 (t507.length : Int) x72_3 y538 (y538.length : Int) (wrap64 (x92_4 + 1)) t479 t480 t481 t482 t483 t484 t485 t486 t487 t488 t489 t490 t491 t492 t493 t494 ((rd_T26 t507 x72_3).f0.f0) ((rd_T26 t507 x72_3).f0.f1) ((rd_T26 t507 x72_3).f0.f2) ((rd_T26 t507 x72_3).f0.f3) ((rd_T26 t507 x72_3).f1.f0) ((rd_T26 t507 x72_3).f1.f1) ((rd_T26 t507 x72_3).f1.f2) ((rd_T26 t507 x72_3).f1.f3)) = some r := by rw [if_neg (show ¬ (false = true) by decide)] at H; exact H
                   clear H
                   have H := H1
                   clear H1
                   have H' := Aside0.mk H
                   clear H
                   have p542 : 0 ≤ (x92_4 : Int) := of_decide_eq_true (by first | (with_reducible assumption) | assumption)
                   have q542 : x92_4 < (y538.length : Int) := of_decide_eq_true (by first | (with_reducible assumption) | assumption)
                   obtain ⟨ad542, e542, hx542_0, hx542_1, hx542_2, hx542_3, hx542_4, hx542_5, hx542_6, hx542_7⟩ := at_T26 HR541.out x92_4 p542 q542
                   obtain rfl : ad525 = ad542 := (by injection e542)
                   replace p542 := eq_true p542
                   replace q542 := eq_true q542
                   go_wp2_with (first | ((with_reducible refine z22q (N := 14) rfl ?_); (try (refine gate_guard (by rfl) ?_; dsimp only)); refine z20q ?hg (N := 14) ?hd (cs := #[.int .i64 0, .int .i64 0, .bool false, .bool false, .int .i64 0, .int .i64 0, .bool false, .bool false]) (t := 26) ?hr ?_; (case hd => rfl); (case hg => rfl); (case hr => first | (go_simp; done) | (go_simp; rfl)); intro gb543 hg w130 hbox hb; have n0_ := Aside0.mk (Kd.R_below (Kd.R_elderB (ro HO_7.out) gb543 (Nat.le_of_eq hg.symm)) hb); have n1_ := Aside0.mk (Kd.R_below (Kd.R_elderB (ro HO_70.out) gb543 (Nat.le_of_eq hg.symm)) hb); have n2_ := Aside0.mk (z2q (cy BK495.out) hb); have n3_ := Aside0.mk (z2q (cy BK496.out) hb); have n4_ := Aside0.mk (z2q (cy BK506.out) hb); have n5_ := Aside0.mk (z2q (cy BK526.out) hb); have n6_ := Aside0.mk (z2q (cy BK537.out) hb); have n7_ := Aside0.mk (Kd.C_below (by repeat (first | (with_reducible exact HR541.out) | (with_reducible refine Kd.C_alloc ?_ _) | (with_reducible refine Kd.C_drewN ?_ _) | (with_reducible refine Kd.C_drew ?_) | exact HR541.out)) hb); have n8_ := Aside0.mk (z8q (ibh HB.out) hb); have n9_ := Aside0.mk (hbox); have n10_ := Aside0.mk ((by rw [hg]; exact (z13q (ibh HB.out)) : w.heap.size ≤ gb543)); have n11_ := Aside0.mk ((by rw [hg]; exact (z13q (ibh HB.out)) : w.heap.size ≤ gb543)); have n12_ := Aside0.mk ((by rw [hg]; exact Nat.ne_of_lt (z14q (cy BK495.out)) : gb495 ≠ gb543)); have n13_ := Aside0.mk ((by rw [hg]; exact Nat.ne_of_gt (z14q (cy BK495.out)) : gb543 ≠ gb495)); have n14_ := Aside0.mk ((by rw [hg]; exact Nat.ne_of_lt (z14q (cy BK496.out)) : gb496 ≠ gb543)); have n15_ := Aside0.mk ((by rw [hg]; exact Nat.ne_of_gt (z14q (cy BK496.out)) : gb543 ≠ gb496)); have n16_ := Aside0.mk ((by rw [hg]; exact Nat.ne_of_lt (z14q (cy BK506.out)) : gb506 ≠ gb543)); have n17_ := Aside0.mk ((by rw [hg]; exact Nat.ne_of_gt (z14q (cy BK506.out)) : gb543 ≠ gb506)); have n18_ := Aside0.mk ((by rw [hg]; exact Nat.ne_of_lt (z14q (cy BK526.out)) : gb526 ≠ gb543)); have n19_ := Aside0.mk ((by rw [hg]; exact Nat.ne_of_gt (z14q (cy BK526.out)) : gb543 ≠ gb526)); have n20_ := Aside0.mk ((by rw [hg]; exact Nat.ne_of_lt (z14q (cy BK537.out)) : gb537 ≠ gb543)); have n21_ := Aside0.mk ((by rw [hg]; exact Nat.ne_of_gt (z14q (cy BK537.out)) : gb543 ≠ gb537)); clear HO_7; clear HO_70; clear BK495; clear BK496; clear BK506; clear BK526; clear BK537; clear HR541; clear HB; have HO_7 := n0_; have HO_70 := n1_; have BK495 := n2_; have BK496 := n3_; have BK506 := n4_; have BK526 := n5_; have BK537 := n6_; have HR541 := n7_; have HB := n8_; have BK543 := n9_; have GW543 := n10_; have GE543 := n11_; have NB495_543 := n12_; have NB543_495 := n13_; have NB496_543 := n14_; have NB543_496 := n15_; have NB506_543 := n16_; have NB543_506 := n17_; have NB526_543 := n18_; have NB543_526 := n19_; have NB537_543 := n20_; have NB543_537 := n21_; clear n0_ n1_ n2_ n3_ n4_ n5_ n6_ n7_ n8_ n9_ n10_ n11_ n12_ n13_ n14_ n15_ n16_ n17_ n18_ n19_ n20_ n21_; clear hb hbox hg; have hnb131 := NB543_495.out; have hnc131 := NB495_543.out; have hnb132 := NB543_496.out; have hnc132 := NB496_543.out; have hnb133 := NB543_506.out; have hnc133 := NB506_543.out; have hnb134 := NB543_526.out; have hnc134 := NB526_543.out; have hnb135 := NB543_537.out; have hnc135 := NB537_543.out; have hcz136_0 : w130.cell? ⟨gb543, 0, none⟩ = some (.int .i64 0) := (z0q BK543.out 0).trans rfl; have hcz136_1 : w130.cell? ⟨gb543, 1, none⟩ = some (.int .i64 0) := (z0q BK543.out 1).trans rfl; have hcz136_2 : w130.cell? ⟨gb543, 2, none⟩ = some (.bool false) := (z0q BK543.out 2).trans rfl; have hcz136_3 : w130.cell? ⟨gb543, 3, none⟩ = some (.bool false) := (z0q BK543.out 3).trans rfl; have hcz136_4 : w130.cell? ⟨gb543, 4, none⟩ = some (.int .i64 0) := (z0q BK543.out 4).trans rfl; have hcz136_5 : w130.cell? ⟨gb543, 5, none⟩ = some (.int .i64 0) := (z0q BK543.out 5).trans rfl; have hcz136_6 : w130.cell? ⟨gb543, 6, none⟩ = some (.bool false) := (z0q BK543.out 6).trans rfl; have hcz136_7 : w130.cell? ⟨gb543, 7, none⟩ = some (.bool false) := (z0q BK543.out 7).trans rfl; have hfz136_0 := z1q BK543.out 0; have hfz136_1 := z1q BK543.out 1; have hfz136_2 := z1q BK543.out 2; have hfz136_3 := z1q BK543.out 3; have hfz136_4 := z1q BK543.out 4; have hfz136_5 := z1q BK543.out 5; have hfz136_6 := z1q BK543.out 6; have hfz136_7 := z1q BK543.out 7; have hnb137 := NB526_495.out; have hnc137 := NB495_526.out; have hnb138 := NB526_496.out; have hnc138 := NB496_526.out; have hnb139 := NB526_506.out; have hnc139 := NB506_526.out; have hnb140 := NB526_537.out; have hnc140 := NB537_526.out; have hcz141_0 : w130.cell? ⟨gb526, 0, none⟩ = some (.int .i64 ((rd_T26 t507 x72_3).f0.f0)) := (z0q BK526.out 0).trans rfl; have hcz141_1 : w130.cell? ⟨gb526, 1, none⟩ = some (.int .i64 ((rd_T26 t507 x72_3).f0.f1)) := (z0q BK526.out 1).trans rfl; have hcz141_2 : w130.cell? ⟨gb526, 2, none⟩ = some (.bool ((rd_T26 t507 x72_3).f0.f2)) := (z0q BK526.out 2).trans rfl; have hcz141_3 : w130.cell? ⟨gb526, 3, none⟩ = some (.bool ((rd_T26 t507 x72_3).f0.f3)) := (z0q BK526.out 3).trans rfl; have hcz141_4 : w130.cell? ⟨gb526, 4, none⟩ = some (.int .i64 ((rd_T26 t507 x72_3).f1.f0)) := (z0q BK526.out 4).trans rfl; have hcz141_5 : w130.cell? ⟨gb526, 5, none⟩ = some (.int .i64 ((rd_T26 t507 x72_3).f1.f1)) := (z0q BK526.out 5).trans rfl; have hcz141_6 : w130.cell? ⟨gb526, 6, none⟩ = some (.bool ((rd_T26 t507 x72_3).f1.f2)) := (z0q BK526.out 6).trans rfl; have hcz141_7 : w130.cell? ⟨gb526, 7, none⟩ = some (.bool ((rd_T26 t507 x72_3).f1.f3)) := (z0q BK526.out 7).trans rfl; have hfz141_0 := z1q BK526.out 0; have hfz141_1 := z1q BK526.out 1; have hfz141_2 := z1q BK526.out 2; have hfz141_3 := z1q BK526.out 3; have hfz141_4 := z1q BK526.out 4; have hfz141_5 := z1q BK526.out 5; have hfz141_6 := z1q BK526.out 6; have hfz141_7 := z1q BK526.out 7) | ((with_reducible refine z15q (f := 12) rfl ?_); refine z23q (some 99) rfl rfl Try.func12 (by kernel_rfl) rfl #[.agg #[.int .i64 ((rd_T26 t507 x72_3).f0.f0), .int .i64 ((rd_T26 t507 x72_3).f0.f1), .bool ((rd_T26 t507 x72_3).f0.f2), .bool ((rd_T26 t507 x72_3).f0.f3), .int .i64 ((rd_T26 t507 x72_3).f1.f0), .int .i64 ((rd_T26 t507 x72_3).f1.f1), .bool ((rd_T26 t507 x72_3).f1.f2), .bool ((rd_T26 t507 x72_3).f1.f3)], .agg #[.int .i64 ((rd_T26 y538 x92_4).f0.f0), .int .i64 ((rd_T26 y538 x92_4).f0.f1), .bool ((rd_T26 y538 x92_4).f0.f2), .bool ((rd_T26 y538 x92_4).f0.f3), .int .i64 ((rd_T26 y538 x92_4).f1.f0), .int .i64 ((rd_T26 y538 x92_4).f1.f1), .bool ((rd_T26 y538 x92_4).f1.f2), .bool ((rd_T26 y538 x92_4).f1.f3)]] rfl (by (try simp only [map_toArray, map_cons, map_nil]); first | done | rfl | (simp only [length_drop, length_take]; rfl)) ?_; (with_reducible refine (spec_Meet.calls k4 ((rd_T26 t507 x72_3).f0.f0) ((rd_T26 t507 x72_3).f0.f1) ((rd_T26 t507 x72_3).f0.f2) ((rd_T26 t507 x72_3).f0.f3) ((rd_T26 t507 x72_3).f1.f0) ((rd_T26 t507 x72_3).f1.f1) ((rd_T26 t507 x72_3).f1.f2) ((rd_T26 t507 x72_3).f1.f3) ((rd_T26 y538 x92_4).f0.f0) ((rd_T26 y538 x92_4).f0.f1) ((rd_T26 y538 x92_4).f0.f2) ((rd_T26 y538 x92_4).f0.f3) ((rd_T26 y538 x92_4).f1.f0) ((rd_T26 y538 x92_4).f1.f1) ((rd_T26 y538 x92_4).f1.f2) ((rd_T26 y538 x92_4).f1.f3) t544 t545 t546 t547 t548 t549 t550 t551 false _ A107.out).mono ?_); rintro e w142 ⟨rfl, hb⟩; refine ⟨_, rfl, ?_⟩; have n0_ := Aside0.mk (Kd.R_below (by (with_reducible repeat (first | apply Kd.R_alloc | apply Kd.R_drewN | apply Kd.R_drew)); exact (Kd.R_mono (Kd.R_far (p := ⟨gb543, 7, none⟩) (Kd.R_far (p := ⟨gb543, 6, none⟩) (Kd.R_far (p := ⟨gb543, 5, none⟩) (Kd.R_far (p := ⟨gb543, 4, none⟩) (Kd.R_far (p := ⟨gb543, 3, none⟩) (Kd.R_far (p := ⟨gb543, 2, none⟩) (Kd.R_far (p := ⟨gb543, 1, none⟩) (Kd.R_far (p := ⟨gb543, 0, none⟩) (Kd.R_mono HO_7.out (fun k_ hk => (⟨hk, hk.2⟩ : _ ∧ k_ ≠ gb543))) (fun _ hk => hk.2) (.int .i64 ((rd_T26 y538 x92_4).f0.f0))) (fun _ hk => hk.2) (.int .i64 ((rd_T26 y538 x92_4).f0.f1))) (fun _ hk => hk.2) (.bool ((rd_T26 y538 x92_4).f0.f2))) (fun _ hk => hk.2) (.bool ((rd_T26 y538 x92_4).f0.f3))) (fun _ hk => hk.2) (.int .i64 ((rd_T26 y538 x92_4).f1.f0))) (fun _ hk => hk.2) (.int .i64 ((rd_T26 y538 x92_4).f1.f1))) (fun _ hk => hk.2) (.bool ((rd_T26 y538 x92_4).f1.f2))) (fun _ hk => hk.2) (.bool ((rd_T26 y538 x92_4).f1.f3))) (fun _ h_ => h_.1))) hb); have n1_ := Aside0.mk (Kd.R_below (by (with_reducible repeat (first | apply Kd.R_alloc | apply Kd.R_drewN | apply Kd.R_drew)); exact (Kd.R_mono (Kd.R_far (p := ⟨gb543, 7, none⟩) (Kd.R_far (p := ⟨gb543, 6, none⟩) (Kd.R_far (p := ⟨gb543, 5, none⟩) (Kd.R_far (p := ⟨gb543, 4, none⟩) (Kd.R_far (p := ⟨gb543, 3, none⟩) (Kd.R_far (p := ⟨gb543, 2, none⟩) (Kd.R_far (p := ⟨gb543, 1, none⟩) (Kd.R_far (p := ⟨gb543, 0, none⟩) (Kd.R_mono HO_70.out (fun k_ hk => (⟨hk, hk.2⟩ : _ ∧ k_ ≠ gb543))) (fun _ hk => hk.2) (.int .i64 ((rd_T26 y538 x92_4).f0.f0))) (fun _ hk => hk.2) (.int .i64 ((rd_T26 y538 x92_4).f0.f1))) (fun _ hk => hk.2) (.bool ((rd_T26 y538 x92_4).f0.f2))) (fun _ hk => hk.2) (.bool ((rd_T26 y538 x92_4).f0.f3))) (fun _ hk => hk.2) (.int .i64 ((rd_T26 y538 x92_4).f1.f0))) (fun _ hk => hk.2) (.int .i64 ((rd_T26 y538 x92_4).f1.f1))) (fun _ hk => hk.2) (.bool ((rd_T26 y538 x92_4).f1.f2))) (fun _ hk => hk.2) (.bool ((rd_T26 y538 x92_4).f1.f3))) (fun _ h_ => h_.1))) hb); have n2_ := Aside0.mk (z2q (cy BK495.out) hb); have n3_ := Aside0.mk (z2q (cy BK496.out) hb); have n4_ := Aside0.mk (z2q (cy BK506.out) hb); have n5_ := Aside0.mk (z2q (cy BK526.out) hb); have n6_ := Aside0.mk (z2q (cy BK537.out) hb); have n7_ := Aside0.mk (Kd.C_below ((show Kd.C k26 ((((((((w130.setCell ⟨gb543, 0, none⟩ (.int .i64 ((rd_T26 y538 x92_4).f0.f0))).setCell ⟨gb543, 1, none⟩ (.int .i64 ((rd_T26 y538 x92_4).f0.f1))).setCell ⟨gb543, 2, none⟩ (.bool ((rd_T26 y538 x92_4).f0.f2))).setCell ⟨gb543, 3, none⟩ (.bool ((rd_T26 y538 x92_4).f0.f3))).setCell ⟨gb543, 4, none⟩ (.int .i64 ((rd_T26 y538 x92_4).f1.f0))).setCell ⟨gb543, 5, none⟩ (.int .i64 ((rd_T26 y538 x92_4).f1.f1))).setCell ⟨gb543, 6, none⟩ (.bool ((rd_T26 y538 x92_4).f1.f2))).setCell ⟨gb543, 7, none⟩ (.bool ((rd_T26 y538 x92_4).f1.f3))) (some ad525) y538.length y538 from by have h_ := Kd.C_take (w := ((((((((w130.setCell ⟨gb543, 0, none⟩ (.int .i64 ((rd_T26 y538 x92_4).f0.f0))).setCell ⟨gb543, 1, none⟩ (.int .i64 ((rd_T26 y538 x92_4).f0.f1))).setCell ⟨gb543, 2, none⟩ (.bool ((rd_T26 y538 x92_4).f0.f2))).setCell ⟨gb543, 3, none⟩ (.bool ((rd_T26 y538 x92_4).f0.f3))).setCell ⟨gb543, 4, none⟩ (.int .i64 ((rd_T26 y538 x92_4).f1.f0))).setCell ⟨gb543, 5, none⟩ (.int .i64 ((rd_T26 y538 x92_4).f1.f1))).setCell ⟨gb543, 6, none⟩ (.bool ((rd_T26 y538 x92_4).f1.f2))).setCell ⟨gb543, 7, none⟩ (.bool ((rd_T26 y538 x92_4).f1.f3)))) (m := (x72_3 : Int).toNat) ((Kd.R_reads' (by (with_reducible repeat (first | apply Kd.R_alloc | apply Kd.R_drewN | apply Kd.R_drew)); exact (Kd.R_mono (Kd.R_far (p := ⟨gb543, 7, none⟩) (Kd.R_far (p := ⟨gb543, 6, none⟩) (Kd.R_far (p := ⟨gb543, 5, none⟩) (Kd.R_far (p := ⟨gb543, 4, none⟩) (Kd.R_far (p := ⟨gb543, 3, none⟩) (Kd.R_far (p := ⟨gb543, 2, none⟩) (Kd.R_far (p := ⟨gb543, 1, none⟩) (Kd.R_far (p := ⟨gb543, 0, none⟩) (Kd.R_mono HO_7.out (fun k_ hk => (⟨hk, hk.2⟩ : _ ∧ k_ ≠ gb543))) (fun _ hk => hk.2) (.int .i64 ((rd_T26 y538 x92_4).f0.f0))) (fun _ hk => hk.2) (.int .i64 ((rd_T26 y538 x92_4).f0.f1))) (fun _ hk => hk.2) (.bool ((rd_T26 y538 x92_4).f0.f2))) (fun _ hk => hk.2) (.bool ((rd_T26 y538 x92_4).f0.f3))) (fun _ hk => hk.2) (.int .i64 ((rd_T26 y538 x92_4).f1.f0))) (fun _ hk => hk.2) (.int .i64 ((rd_T26 y538 x92_4).f1.f1))) (fun _ hk => hk.2) (.bool ((rd_T26 y538 x92_4).f1.f2))) (fun _ hk => hk.2) (.bool ((rd_T26 y538 x92_4).f1.f3))) (fun _ h_ => h_.1)))).2.2) KL103.out; rw [← Ny538.out] at h_; exact h_)) hb); have n8_ := Aside0.mk (z2q (g := gb543) (o := .cells #[.int .i64 ((rd_T26 y538 x92_4).f0.f0), .int .i64 ((rd_T26 y538 x92_4).f0.f1), .bool ((rd_T26 y538 x92_4).f0.f2), .bool ((rd_T26 y538 x92_4).f0.f3), .int .i64 ((rd_T26 y538 x92_4).f1.f0), .int .i64 ((rd_T26 y538 x92_4).f1.f1), .bool ((rd_T26 y538 x92_4).f1.f2), .bool ((rd_T26 y538 x92_4).f1.f3)] 26 (0, 0)) (by refine cz ?_; refine z6q (cs := #[.int .i64 ((rd_T26 y538 x92_4).f0.f0), .int .i64 ((rd_T26 y538 x92_4).f0.f1), .bool ((rd_T26 y538 x92_4).f0.f2), .bool ((rd_T26 y538 x92_4).f0.f3), .int .i64 ((rd_T26 y538 x92_4).f1.f0), .int .i64 ((rd_T26 y538 x92_4).f1.f1), .bool ((rd_T26 y538 x92_4).f1.f2), .bool false]) ?_ 7 _ rfl; refine cz ?_; refine z6q (cs := #[.int .i64 ((rd_T26 y538 x92_4).f0.f0), .int .i64 ((rd_T26 y538 x92_4).f0.f1), .bool ((rd_T26 y538 x92_4).f0.f2), .bool ((rd_T26 y538 x92_4).f0.f3), .int .i64 ((rd_T26 y538 x92_4).f1.f0), .int .i64 ((rd_T26 y538 x92_4).f1.f1), .bool false, .bool false]) ?_ 6 _ rfl; refine cz ?_; refine z6q (cs := #[.int .i64 ((rd_T26 y538 x92_4).f0.f0), .int .i64 ((rd_T26 y538 x92_4).f0.f1), .bool ((rd_T26 y538 x92_4).f0.f2), .bool ((rd_T26 y538 x92_4).f0.f3), .int .i64 ((rd_T26 y538 x92_4).f1.f0), .int .i64 0, .bool false, .bool false]) ?_ 5 _ rfl; refine cz ?_; refine z6q (cs := #[.int .i64 ((rd_T26 y538 x92_4).f0.f0), .int .i64 ((rd_T26 y538 x92_4).f0.f1), .bool ((rd_T26 y538 x92_4).f0.f2), .bool ((rd_T26 y538 x92_4).f0.f3), .int .i64 0, .int .i64 0, .bool false, .bool false]) ?_ 4 _ rfl; refine cz ?_; refine z6q (cs := #[.int .i64 ((rd_T26 y538 x92_4).f0.f0), .int .i64 ((rd_T26 y538 x92_4).f0.f1), .bool ((rd_T26 y538 x92_4).f0.f2), .bool false, .int .i64 0, .int .i64 0, .bool false, .bool false]) ?_ 3 _ rfl; refine cz ?_; refine z6q (cs := #[.int .i64 ((rd_T26 y538 x92_4).f0.f0), .int .i64 ((rd_T26 y538 x92_4).f0.f1), .bool false, .bool false, .int .i64 0, .int .i64 0, .bool false, .bool false]) ?_ 2 _ rfl; refine cz ?_; refine z6q (cs := #[.int .i64 ((rd_T26 y538 x92_4).f0.f0), .int .i64 0, .bool false, .bool false, .int .i64 0, .int .i64 0, .bool false, .bool false]) ?_ 1 _ rfl; refine cz ?_; refine z6q (cs := #[.int .i64 0, .int .i64 0, .bool false, .bool false, .int .i64 0, .int .i64 0, .bool false, .bool false]) ?_ 0 _ rfl; exact cy BK543.out) hb); have n9_ := Aside0.mk (z8q (ibh HB.out) hb); clear HO_7; clear HO_70; clear BK495; clear BK496; clear BK506; clear BK526; clear BK537; clear HR541; clear BK543; clear HB; have HO_7 := n0_; have HO_70 := n1_; have BK495 := n2_; have BK496 := n3_; have BK506 := n4_; have BK526 := n5_; have BK537 := n6_; have HR541 := n7_; have BK543 := n8_; have HB := n9_; clear n0_ n1_ n2_ n3_ n4_ n5_ n6_ n7_ n8_ n9_; (try clear hb); (try clear hb2); (try clear hk); (try clear hi)) | ((with_reducible refine z22q (N := 15) rfl ?_); (try (refine gate_guard (by rfl) ?_; dsimp only)); refine z20q ?hg (N := 15) ?hd (cs := #[.int .i64 0, .int .i64 0, .bool false, .bool false, .int .i64 0, .int .i64 0, .bool false, .bool false]) (t := 26) ?hr ?_; (case hd => rfl); (case hg => rfl); (case hr => first | (go_simp; done) | (go_simp; rfl)); intro gb553 hg w143 hbox hb; have n0_ := Aside0.mk (Kd.R_below (Kd.R_elderB (ro HO_7.out) gb553 (Nat.le_of_eq hg.symm)) hb); have n1_ := Aside0.mk (Kd.R_below (Kd.R_elderB (ro HO_70.out) gb553 (Nat.le_of_eq hg.symm)) hb); have n2_ := Aside0.mk (z2q (cy BK495.out) hb); have n3_ := Aside0.mk (z2q (cy BK496.out) hb); have n4_ := Aside0.mk (z2q (cy BK506.out) hb); have n5_ := Aside0.mk (z2q (cy BK526.out) hb); have n6_ := Aside0.mk (z2q (cy BK537.out) hb); have n7_ := Aside0.mk (Kd.C_below (by repeat (first | (with_reducible exact HR541.out) | (with_reducible refine Kd.C_alloc ?_ _) | (with_reducible refine Kd.C_drewN ?_ _) | (with_reducible refine Kd.C_drew ?_) | exact HR541.out)) hb); have n8_ := Aside0.mk (z2q (cy BK543.out) hb); have n9_ := Aside0.mk (z8q (ibh HB.out) hb); have n10_ := Aside0.mk (hbox); have n11_ := Aside0.mk ((by rw [hg]; exact (z13q (ibh HB.out)) : w.heap.size ≤ gb553)); have n12_ := Aside0.mk ((by rw [hg]; exact (z13q (ibh HB.out)) : w.heap.size ≤ gb553)); have n13_ := Aside0.mk ((by rw [hg]; exact Nat.ne_of_lt (z14q (cy BK495.out)) : gb495 ≠ gb553)); have n14_ := Aside0.mk ((by rw [hg]; exact Nat.ne_of_gt (z14q (cy BK495.out)) : gb553 ≠ gb495)); have n15_ := Aside0.mk ((by rw [hg]; exact Nat.ne_of_lt (z14q (cy BK496.out)) : gb496 ≠ gb553)); have n16_ := Aside0.mk ((by rw [hg]; exact Nat.ne_of_gt (z14q (cy BK496.out)) : gb553 ≠ gb496)); have n17_ := Aside0.mk ((by rw [hg]; exact Nat.ne_of_lt (z14q (cy BK506.out)) : gb506 ≠ gb553)); have n18_ := Aside0.mk ((by rw [hg]; exact Nat.ne_of_gt (z14q (cy BK506.out)) : gb553 ≠ gb506)); have n19_ := Aside0.mk ((by rw [hg]; exact Nat.ne_of_lt (z14q (cy BK526.out)) : gb526 ≠ gb553)); have n20_ := Aside0.mk ((by rw [hg]; exact Nat.ne_of_gt (z14q (cy BK526.out)) : gb553 ≠ gb526)); have n21_ := Aside0.mk ((by rw [hg]; exact Nat.ne_of_lt (z14q (cy BK537.out)) : gb537 ≠ gb553)); have n22_ := Aside0.mk ((by rw [hg]; exact Nat.ne_of_gt (z14q (cy BK537.out)) : gb553 ≠ gb537)); have n23_ := Aside0.mk ((by rw [hg]; exact Nat.ne_of_lt (z14q (cy BK543.out)) : gb543 ≠ gb553)); have n24_ := Aside0.mk ((by rw [hg]; exact Nat.ne_of_gt (z14q (cy BK543.out)) : gb553 ≠ gb543)); clear HO_7; clear HO_70; clear BK495; clear BK496; clear BK506; clear BK526; clear BK537; clear HR541; clear BK543; clear HB; have HO_7 := n0_; have HO_70 := n1_; have BK495 := n2_; have BK496 := n3_; have BK506 := n4_; have BK526 := n5_; have BK537 := n6_; have HR541 := n7_; have BK543 := n8_; have HB := n9_; have BK553 := n10_; have GW553 := n11_; have GE553 := n12_; have NB495_553 := n13_; have NB553_495 := n14_; have NB496_553 := n15_; have NB553_496 := n16_; have NB506_553 := n17_; have NB553_506 := n18_; have NB526_553 := n19_; have NB553_526 := n20_; have NB537_553 := n21_; have NB553_537 := n22_; have NB543_553 := n23_; have NB553_543 := n24_; clear n0_ n1_ n2_ n3_ n4_ n5_ n6_ n7_ n8_ n9_ n10_ n11_ n12_ n13_ n14_ n15_ n16_ n17_ n18_ n19_ n20_ n21_ n22_ n23_ n24_; clear hb hbox hg; have hnb144 := NB553_495.out; have hnc144 := NB495_553.out; have hnb145 := NB553_496.out; have hnc145 := NB496_553.out; have hnb146 := NB553_506.out; have hnc146 := NB506_553.out; have hnb147 := NB553_526.out; have hnc147 := NB526_553.out; have hnb148 := NB553_537.out; have hnc148 := NB537_553.out; have hnb149 := NB553_543.out; have hnc149 := NB543_553.out; have hcz150_0 : w143.cell? ⟨gb553, 0, none⟩ = some (.int .i64 0) := (z0q BK553.out 0).trans rfl; have hcz150_1 : w143.cell? ⟨gb553, 1, none⟩ = some (.int .i64 0) := (z0q BK553.out 1).trans rfl; have hcz150_2 : w143.cell? ⟨gb553, 2, none⟩ = some (.bool false) := (z0q BK553.out 2).trans rfl; have hcz150_3 : w143.cell? ⟨gb553, 3, none⟩ = some (.bool false) := (z0q BK553.out 3).trans rfl; have hcz150_4 : w143.cell? ⟨gb553, 4, none⟩ = some (.int .i64 0) := (z0q BK553.out 4).trans rfl; have hcz150_5 : w143.cell? ⟨gb553, 5, none⟩ = some (.int .i64 0) := (z0q BK553.out 5).trans rfl; have hcz150_6 : w143.cell? ⟨gb553, 6, none⟩ = some (.bool false) := (z0q BK553.out 6).trans rfl; have hcz150_7 : w143.cell? ⟨gb553, 7, none⟩ = some (.bool false) := (z0q BK553.out 7).trans rfl; have hfz150_0 := z1q BK553.out 0; have hfz150_1 := z1q BK553.out 1; have hfz150_2 := z1q BK553.out 2; have hfz150_3 := z1q BK553.out 3; have hfz150_4 := z1q BK553.out 4; have hfz150_5 := z1q BK553.out 5; have hfz150_6 := z1q BK553.out 6; have hfz150_7 := z1q BK553.out 7))
                   go_roundg k4
                   case measure => have := HJ8.out; have := HJ52.out; have := HK3.out; have := HK4.out; omega
                   case rel => exact ⟨(wrap64 (x92_4 + 1)), (by first | rfl | (simp; done) | (simp [*]; done) | (simp; unfold wrap64; omega)), H', ⟨by have := HJ8.out; have := HJ52.out; have := HK3.out; have := HK4.out; omega⟩, ⟨by (with_reducible repeat (first | apply Kd.R_alloc | apply Kd.R_drewN | apply Kd.R_drew)); exact Kd.R_mono (Kd.R_far (p := ⟨gb553, 7, none⟩) (Kd.R_far (p := ⟨gb553, 6, none⟩) (Kd.R_far (p := ⟨gb553, 5, none⟩) (Kd.R_far (p := ⟨gb553, 4, none⟩) (Kd.R_far (p := ⟨gb553, 3, none⟩) (Kd.R_far (p := ⟨gb553, 2, none⟩) (Kd.R_far (p := ⟨gb553, 1, none⟩) (Kd.R_far (p := ⟨gb553, 0, none⟩) (Kd.R_mono HO_7.out (fun k_ hk => (⟨hk, hk.2⟩ : _ ∧ k_ ≠ gb553))) (fun _ hk => hk.2) (.int .i64 t544)) (fun _ hk => hk.2) (.int .i64 t545)) (fun _ hk => hk.2) (.bool t546)) (fun _ hk => hk.2) (.bool t547)) (fun _ hk => hk.2) (.int .i64 t548)) (fun _ hk => hk.2) (.int .i64 t549)) (fun _ hk => hk.2) (.bool t550)) (fun _ hk => hk.2) (.bool t551)) (fun _ hk => ⟨hk.1.1.1.1, ⟨hk.1.1.1.2.1, ⟨hk.1.1.1.2.2.1, ⟨hk.1.1.1.2.2.2.1, hk.1.1.1.2.2.2.2⟩⟩⟩⟩)⟩, ⟨by (with_reducible repeat (first | apply Kd.R_alloc | apply Kd.R_drewN | apply Kd.R_drew)); exact Kd.R_mono (Kd.R_far (p := ⟨gb553, 7, none⟩) (Kd.R_far (p := ⟨gb553, 6, none⟩) (Kd.R_far (p := ⟨gb553, 5, none⟩) (Kd.R_far (p := ⟨gb553, 4, none⟩) (Kd.R_far (p := ⟨gb553, 3, none⟩) (Kd.R_far (p := ⟨gb553, 2, none⟩) (Kd.R_far (p := ⟨gb553, 1, none⟩) (Kd.R_far (p := ⟨gb553, 0, none⟩) (Kd.R_mono HO_70.out (fun k_ hk => (⟨hk, hk.2⟩ : _ ∧ k_ ≠ gb553))) (fun _ hk => hk.2) (.int .i64 t544)) (fun _ hk => hk.2) (.int .i64 t545)) (fun _ hk => hk.2) (.bool t546)) (fun _ hk => hk.2) (.bool t547)) (fun _ hk => hk.2) (.int .i64 t548)) (fun _ hk => hk.2) (.int .i64 t549)) (fun _ hk => hk.2) (.bool t550)) (fun _ hk => hk.2) (.bool t551)) (fun _ hk => ⟨hk.1.1.1.1, ⟨hk.1.1.1.2.1, ⟨hk.1.1.1.2.2.1, ⟨hk.1.1.1.2.2.2.1, hk.1.1.1.2.2.2.2⟩⟩⟩⟩)⟩, ⟨by (with_reducible repeat (first | refine z11q ?_ _ | refine z10q ?_ | refine z4q ?_ _)); refine z18q ?_ NB495_553.out _; (with_reducible repeat (first | refine z11q ?_ _ | refine z10q ?_ | refine z4q ?_ _)); refine z18q ?_ NB495_553.out _; (with_reducible repeat (first | refine z11q ?_ _ | refine z10q ?_ | refine z4q ?_ _)); refine z18q ?_ NB495_553.out _; (with_reducible repeat (first | refine z11q ?_ _ | refine z10q ?_ | refine z4q ?_ _)); refine z18q ?_ NB495_553.out _; (with_reducible repeat (first | refine z11q ?_ _ | refine z10q ?_ | refine z4q ?_ _)); refine z18q ?_ NB495_553.out _; (with_reducible repeat (first | refine z11q ?_ _ | refine z10q ?_ | refine z4q ?_ _)); refine z18q ?_ NB495_553.out _; (with_reducible repeat (first | refine z11q ?_ _ | refine z10q ?_ | refine z4q ?_ _)); refine z18q ?_ NB495_553.out _; (with_reducible repeat (first | refine z11q ?_ _ | refine z10q ?_ | refine z4q ?_ _)); refine z18q ?_ NB495_553.out _; (with_reducible repeat (first | refine z11q ?_ _ | refine z10q ?_ | refine z4q ?_ _)); exact BK495.out⟩, ⟨by (with_reducible repeat (first | refine z11q ?_ _ | refine z10q ?_ | refine z4q ?_ _)); refine z18q ?_ NB496_553.out _; (with_reducible repeat (first | refine z11q ?_ _ | refine z10q ?_ | refine z4q ?_ _)); refine z18q ?_ NB496_553.out _; (with_reducible repeat (first | refine z11q ?_ _ | refine z10q ?_ | refine z4q ?_ _)); refine z18q ?_ NB496_553.out _; (with_reducible repeat (first | refine z11q ?_ _ | refine z10q ?_ | refine z4q ?_ _)); refine z18q ?_ NB496_553.out _; (with_reducible repeat (first | refine z11q ?_ _ | refine z10q ?_ | refine z4q ?_ _)); refine z18q ?_ NB496_553.out _; (with_reducible repeat (first | refine z11q ?_ _ | refine z10q ?_ | refine z4q ?_ _)); refine z18q ?_ NB496_553.out _; (with_reducible repeat (first | refine z11q ?_ _ | refine z10q ?_ | refine z4q ?_ _)); refine z18q ?_ NB496_553.out _; (with_reducible repeat (first | refine z11q ?_ _ | refine z10q ?_ | refine z4q ?_ _)); refine z18q ?_ NB496_553.out _; (with_reducible repeat (first | refine z11q ?_ _ | refine z10q ?_ | refine z4q ?_ _)); exact BK496.out⟩, ⟨by (with_reducible repeat (first | refine z11q ?_ _ | refine z10q ?_ | refine z4q ?_ _)); refine z18q ?_ NB506_553.out _; (with_reducible repeat (first | refine z11q ?_ _ | refine z10q ?_ | refine z4q ?_ _)); refine z18q ?_ NB506_553.out _; (with_reducible repeat (first | refine z11q ?_ _ | refine z10q ?_ | refine z4q ?_ _)); refine z18q ?_ NB506_553.out _; (with_reducible repeat (first | refine z11q ?_ _ | refine z10q ?_ | refine z4q ?_ _)); refine z18q ?_ NB506_553.out _; (with_reducible repeat (first | refine z11q ?_ _ | refine z10q ?_ | refine z4q ?_ _)); refine z18q ?_ NB506_553.out _; (with_reducible repeat (first | refine z11q ?_ _ | refine z10q ?_ | refine z4q ?_ _)); refine z18q ?_ NB506_553.out _; (with_reducible repeat (first | refine z11q ?_ _ | refine z10q ?_ | refine z4q ?_ _)); refine z18q ?_ NB506_553.out _; (with_reducible repeat (first | refine z11q ?_ _ | refine z10q ?_ | refine z4q ?_ _)); refine z18q ?_ NB506_553.out _; (with_reducible repeat (first | refine z11q ?_ _ | refine z10q ?_ | refine z4q ?_ _)); exact BK506.out⟩, ⟨by (with_reducible repeat (first | refine z11q ?_ _ | refine z10q ?_ | refine z4q ?_ _)); refine z18q ?_ NB526_553.out _; (with_reducible repeat (first | refine z11q ?_ _ | refine z10q ?_ | refine z4q ?_ _)); refine z18q ?_ NB526_553.out _; (with_reducible repeat (first | refine z11q ?_ _ | refine z10q ?_ | refine z4q ?_ _)); refine z18q ?_ NB526_553.out _; (with_reducible repeat (first | refine z11q ?_ _ | refine z10q ?_ | refine z4q ?_ _)); refine z18q ?_ NB526_553.out _; (with_reducible repeat (first | refine z11q ?_ _ | refine z10q ?_ | refine z4q ?_ _)); refine z18q ?_ NB526_553.out _; (with_reducible repeat (first | refine z11q ?_ _ | refine z10q ?_ | refine z4q ?_ _)); refine z18q ?_ NB526_553.out _; (with_reducible repeat (first | refine z11q ?_ _ | refine z10q ?_ | refine z4q ?_ _)); refine z18q ?_ NB526_553.out _; (with_reducible repeat (first | refine z11q ?_ _ | refine z10q ?_ | refine z4q ?_ _)); refine z18q ?_ NB526_553.out _; (with_reducible repeat (first | refine z11q ?_ _ | refine z10q ?_ | refine z4q ?_ _)); exact BK526.out⟩, ⟨by (with_reducible repeat (first | refine z11q ?_ _ | refine z10q ?_ | refine z4q ?_ _)); refine z18q ?_ NB537_553.out _; (with_reducible repeat (first | refine z11q ?_ _ | refine z10q ?_ | refine z4q ?_ _)); refine z18q ?_ NB537_553.out _; (with_reducible repeat (first | refine z11q ?_ _ | refine z10q ?_ | refine z4q ?_ _)); refine z18q ?_ NB537_553.out _; (with_reducible repeat (first | refine z11q ?_ _ | refine z10q ?_ | refine z4q ?_ _)); refine z18q ?_ NB537_553.out _; (with_reducible repeat (first | refine z11q ?_ _ | refine z10q ?_ | refine z4q ?_ _)); refine z18q ?_ NB537_553.out _; (with_reducible repeat (first | refine z11q ?_ _ | refine z10q ?_ | refine z4q ?_ _)); refine z18q ?_ NB537_553.out _; (with_reducible repeat (first | refine z11q ?_ _ | refine z10q ?_ | refine z4q ?_ _)); refine z18q ?_ NB537_553.out _; (with_reducible repeat (first | refine z11q ?_ _ | refine z10q ?_ | refine z4q ?_ _)); refine z18q ?_ NB537_553.out _; (with_reducible repeat (first | refine z11q ?_ _ | refine z10q ?_ | refine z4q ?_ _)); exact BK537.out⟩, ⟨(show Kd.C k26 ((((((((w143.setCell ⟨gb553, 0, none⟩ (.int .i64 t544)).setCell ⟨gb553, 1, none⟩ (.int .i64 t545)).setCell ⟨gb553, 2, none⟩ (.bool t546)).setCell ⟨gb553, 3, none⟩ (.bool t547)).setCell ⟨gb553, 4, none⟩ (.int .i64 t548)).setCell ⟨gb553, 5, none⟩ (.int .i64 t549)).setCell ⟨gb553, 6, none⟩ (.bool t550)).setCell ⟨gb553, 7, none⟩ (.bool t551)) (some ad525) y538.length y538 from by have h_ := Kd.C_take (w := ((((((((w143.setCell ⟨gb553, 0, none⟩ (.int .i64 t544)).setCell ⟨gb553, 1, none⟩ (.int .i64 t545)).setCell ⟨gb553, 2, none⟩ (.bool t546)).setCell ⟨gb553, 3, none⟩ (.bool t547)).setCell ⟨gb553, 4, none⟩ (.int .i64 t548)).setCell ⟨gb553, 5, none⟩ (.int .i64 t549)).setCell ⟨gb553, 6, none⟩ (.bool t550)).setCell ⟨gb553, 7, none⟩ (.bool t551))) (m := (x72_3 : Int).toNat) ((Kd.R_reads' (by (with_reducible repeat (first | apply Kd.R_alloc | apply Kd.R_drewN | apply Kd.R_drew)); exact (Kd.R_mono (Kd.R_far (p := ⟨gb553, 7, none⟩) (Kd.R_far (p := ⟨gb553, 6, none⟩) (Kd.R_far (p := ⟨gb553, 5, none⟩) (Kd.R_far (p := ⟨gb553, 4, none⟩) (Kd.R_far (p := ⟨gb553, 3, none⟩) (Kd.R_far (p := ⟨gb553, 2, none⟩) (Kd.R_far (p := ⟨gb553, 1, none⟩) (Kd.R_far (p := ⟨gb553, 0, none⟩) (Kd.R_mono HO_7.out (fun k_ hk => (⟨hk, hk.2⟩ : _ ∧ k_ ≠ gb553))) (fun _ hk => hk.2) (.int .i64 t544)) (fun _ hk => hk.2) (.int .i64 t545)) (fun _ hk => hk.2) (.bool t546)) (fun _ hk => hk.2) (.bool t547)) (fun _ hk => hk.2) (.int .i64 t548)) (fun _ hk => hk.2) (.int .i64 t549)) (fun _ hk => hk.2) (.bool t550)) (fun _ hk => hk.2) (.bool t551)) (fun _ h_ => h_.1)))).2.2) KL103.out; rw [← Ny538.out] at h_; exact h_)⟩, ⟨by repeat (first | (with_reducible first | exact HB.out | apply z7q | apply z5q | apply z12q | refine z3q ?_ GE495.out | refine z3q ?_ GE496.out | refine z3q ?_ GE506.out | refine z3q ?_ GE526.out | refine z3q ?_ GE537.out | refine z3q ?_ GE543.out | refine z3q ?_ GE553.out) | exact HB.out)⟩⟩
                 ·rw [if_neg c106] at H
                  exact absurd H (by simp)
                ·rw [if_neg c105] at H
                 exact absurd H (by simp)
               ·rw [if_neg c104] at H
                have c104b0 : decide (x92_4 < (y538.length : Int)) = false := decide_eq_false c104
                clear c104
                have H' := Aside0.mk H
                clear H
                go_wp2
                go_roundg k4
                case measure => have := HJ8.out; have := HJ52.out; have := HK3.out; have := HK4.out; omega
                case rel => exact ⟨((wrap64 (x8_3 + t527))), (wrap64 (x72_3 + 1)), (by first | rfl | (simp; done) | (simp [*]; done) | (simp; unfold wrap64; omega)), (by first | rfl | (simp; done) | (simp [*]; done) | (simp; unfold wrap64; omega)), H', ⟨by have := HJ8.out; have := HJ52.out; have := HK3.out; have := HK4.out; omega⟩, ⟨by (with_reducible repeat (first | apply Kd.R_alloc | apply Kd.R_drewN | apply Kd.R_drew)); exact Kd.R_mono HO_7.out (fun _ hk => ⟨hk.1, ⟨hk.2.1, hk.2.2.1⟩⟩)⟩, ⟨by (with_reducible repeat (first | apply Kd.R_alloc | apply Kd.R_drewN | apply Kd.R_drew)); exact Kd.R_mono HO_70.out (fun _ hk => ⟨hk.1, ⟨hk.2.1, hk.2.2.1⟩⟩)⟩, ⟨by (with_reducible repeat (first | refine z11q ?_ _ | refine z10q ?_ | refine z4q ?_ _)); exact BK495.out⟩, ⟨by (with_reducible repeat (first | refine z11q ?_ _ | refine z10q ?_ | refine z4q ?_ _)); exact BK496.out⟩, ⟨by (with_reducible repeat (first | refine z11q ?_ _ | refine z10q ?_ | refine z4q ?_ _)); exact BK506.out⟩, ⟨by repeat (first | (with_reducible first | exact HB.out | apply z7q | apply z5q | apply z12q | refine z3q ?_ GE495.out | refine z3q ?_ GE496.out | refine z3q ?_ GE506.out | refine z3q ?_ GE526.out | refine z3q ?_ GE537.out) | exact HB.out)⟩⟩
            ·rw [if_neg c84] at H
             exact absurd H (by simp)
          ·rw [if_neg c62] at H
           exact absurd H (by simp)
         ·rw [if_neg c61] at H
          exact absurd H (by simp)
        ·rw [if_neg c60] at H
         have c60b0 : decide (x72_3 < (t507.length : Int)) = false := decide_eq_false c60
         clear c60
         replace H := Option.bind_eq_some_iff.mp H
         obtain ⟨⟨t554, t555, t556, t557, t558, t559, t560, t561⟩, A1510, H⟩ := H
         replace H : ((impl_Meet.f k3 t554 t555 t556 t557 t558 t559 t560 t561 t479 t480 t481 t482 t483 t484 t485 t486).bind fun bt563 => ((impl_Meet.f k3 t554 t555 t556 t557 t558 t559 t560 t561 t487 t488 t489 t490 t491 t492 t493 t494).bind fun bt573 => ((spec_CellsIn.f t479 t480 t481 t482 t483 t484 t485 t486).bind fun t583 => (if x8_3 = t583 then (if bt563.2.2.2.2.2.2.2.2 = true then ((spec_Hull.f k3 t479 t480 t481 t482 t483 t484 t485 t486 t479 t480 t481 t482 t483 t484 t485 t486).bind fun bt584 => (if ((bt563.1 == bt584.1 && (bt563.2.1 == bt584.2.1 && (bt563.2.2.1 == bt584.2.2.1 && (bt563.2.2.2.1 == bt584.2.2.2.1)))) && ((bt563.2.2.2.2.1 == bt584.2.2.2.2.1 && (bt563.2.2.2.2.2.1 == bt584.2.2.2.2.2.1 && (bt563.2.2.2.2.2.2.1 == bt584.2.2.2.2.2.2.1 && (bt563.2.2.2.2.2.2.2.1 == bt584.2.2.2.2.2.2.2)))))) = true then (if bt573.2.2.2.2.2.2.2.2 = true then ((spec_Hull.f k3 t487 t488 t489 t490 t491 t492 t493 t494 t487 t488 t489 t490 t491 t492 t493 t494).bind fun bt592 => (some ((bt573.1 == bt592.1 && (bt573.2.1 == bt592.2.1 && (bt573.2.2.1 == bt592.2.2.1 && (bt573.2.2.2.1 == bt592.2.2.2.1)))) && ((bt573.2.2.2.2.1 == bt592.2.2.2.2.1 && (bt573.2.2.2.2.2.1 == bt592.2.2.2.2.2.1 && (bt573.2.2.2.2.2.2.1 == bt592.2.2.2.2.2.2.1 && (bt573.2.2.2.2.2.2.2.1 == bt592.2.2.2.2.2.2.2)))))))) else (some false)) else (some false))) else (some false)) else (some false))))) = some r := H
         have A151 := Aside0.mk A1510
         clear A1510
         replace H := Option.bind_eq_some_iff.mp H
         obtain ⟨⟨t563, t564, t565, t566, t567, t568, t569, t570, t571⟩, A1520, H⟩ := H
         replace H : ((impl_Meet.f k3 t554 t555 t556 t557 t558 t559 t560 t561 t487 t488 t489 t490 t491 t492 t493 t494).bind fun bt573 => ((spec_CellsIn.f t479 t480 t481 t482 t483 t484 t485 t486).bind fun t583 => (if x8_3 = t583 then (if t571 = true then ((spec_Hull.f k3 t479 t480 t481 t482 t483 t484 t485 t486 t479 t480 t481 t482 t483 t484 t485 t486).bind fun bt584 => (if ((t563 == bt584.1 && (t564 == bt584.2.1 && (t565 == bt584.2.2.1 && (t566 == bt584.2.2.2.1)))) && ((t567 == bt584.2.2.2.2.1 && (t568 == bt584.2.2.2.2.2.1 && (t569 == bt584.2.2.2.2.2.2.1 && (t570 == bt584.2.2.2.2.2.2.2)))))) = true then (if bt573.2.2.2.2.2.2.2.2 = true then ((spec_Hull.f k3 t487 t488 t489 t490 t491 t492 t493 t494 t487 t488 t489 t490 t491 t492 t493 t494).bind fun bt592 => (some ((bt573.1 == bt592.1 && (bt573.2.1 == bt592.2.1 && (bt573.2.2.1 == bt592.2.2.1 && (bt573.2.2.2.1 == bt592.2.2.2.1)))) && ((bt573.2.2.2.2.1 == bt592.2.2.2.2.1 && (bt573.2.2.2.2.2.1 == bt592.2.2.2.2.2.1 && (bt573.2.2.2.2.2.2.1 == bt592.2.2.2.2.2.2.1 && (bt573.2.2.2.2.2.2.2.1 == bt592.2.2.2.2.2.2.2)))))))) else (some false)) else (some false))) else (some false)) else (some false)))) = some r := H
         have A152 := Aside0.mk A1520
         clear A1520
         replace H := Option.bind_eq_some_iff.mp H
         obtain ⟨⟨t573, t574, t575, t576, t577, t578, t579, t580, t581⟩, A1530, H⟩ := H
         replace H : ((spec_CellsIn.f t479 t480 t481 t482 t483 t484 t485 t486).bind fun t583 => (if x8_3 = t583 then (if t571 = true then ((spec_Hull.f k3 t479 t480 t481 t482 t483 t484 t485 t486 t479 t480 t481 t482 t483 t484 t485 t486).bind fun bt584 => (if ((t563 == bt584.1 && (t564 == bt584.2.1 && (t565 == bt584.2.2.1 && (t566 == bt584.2.2.2.1)))) && ((t567 == bt584.2.2.2.2.1 && (t568 == bt584.2.2.2.2.2.1 && (t569 == bt584.2.2.2.2.2.2.1 && (t570 == bt584.2.2.2.2.2.2.2)))))) = true then (if t581 = true then ((spec_Hull.f k3 t487 t488 t489 t490 t491 t492 t493 t494 t487 t488 t489 t490 t491 t492 t493 t494).bind fun bt592 => (some ((t573 == bt592.1 && (t574 == bt592.2.1 && (t575 == bt592.2.2.1 && (t576 == bt592.2.2.2.1)))) && ((t577 == bt592.2.2.2.2.1 && (t578 == bt592.2.2.2.2.2.1 && (t579 == bt592.2.2.2.2.2.2.1 && (t580 == bt592.2.2.2.2.2.2.2)))))))) else (some false)) else (some false))) else (some false)) else (some false))) = some r := H
         have A153 := Aside0.mk A1530
         clear A1530
         replace H := Option.bind_eq_some_iff.mp H
         obtain ⟨t583, A1540, H⟩ := H
         replace H : (if x8_3 = t583 then (if t571 = true then ((spec_Hull.f k3 t479 t480 t481 t482 t483 t484 t485 t486 t479 t480 t481 t482 t483 t484 t485 t486).bind fun bt584 => (if ((t563 == bt584.1 && (t564 == bt584.2.1 && (t565 == bt584.2.2.1 && (t566 == bt584.2.2.2.1)))) && ((t567 == bt584.2.2.2.2.1 && (t568 == bt584.2.2.2.2.2.1 && (t569 == bt584.2.2.2.2.2.2.1 && (t570 == bt584.2.2.2.2.2.2.2)))))) = true then (if t581 = true then ((spec_Hull.f k3 t487 t488 t489 t490 t491 t492 t493 t494 t487 t488 t489 t490 t491 t492 t493 t494).bind fun bt592 => (some ((t573 == bt592.1 && (t574 == bt592.2.1 && (t575 == bt592.2.2.1 && (t576 == bt592.2.2.2.1)))) && ((t577 == bt592.2.2.2.2.1 && (t578 == bt592.2.2.2.2.2.1 && (t579 == bt592.2.2.2.2.2.2.1 && (t580 == bt592.2.2.2.2.2.2.2)))))))) else (some false)) else (some false))) else (some false)) else (some false)) = some r := H
         have A154 := Aside0.mk A1540
         clear A1540
         by_cases c155 : x8_3 = t583
         ·rw [if_pos c155] at H
          have c155b0 : (x8_3 == t583) = true := beq_iff_eq.mpr c155
          have c155b1 : (x8_3 != t583) = false := bne_eq_false_iff_eq.mpr c155
          clear c155
          by_cases c156 : t571 = true
          ·subst c156
           have H1 : ((spec_Hull.f k3 t479 t480 t481 t482 t483 t484 t485 t486 t479 t480 t481 t482 t483 t484 t485 t486).bind fun bt584 => (if ((t563 == bt584.1 && (t564 == bt584.2.1 && (t565 == bt584.2.2.1 && (t566 == bt584.2.2.2.1)))) && ((t567 == bt584.2.2.2.2.1 && (t568 == bt584.2.2.2.2.2.1 && (t569 == bt584.2.2.2.2.2.2.1 && (t570 == bt584.2.2.2.2.2.2.2)))))) = true then (if t581 = true then ((spec_Hull.f k3 t487 t488 t489 t490 t491 t492 t493 t494 t487 t488 t489 t490 t491 t492 t493 t494).bind fun bt592 => (some ((t573 == bt592.1 && (t574 == bt592.2.1 && (t575 == bt592.2.2.1 && (t576 == bt592.2.2.2.1)))) && ((t577 == bt592.2.2.2.2.1 && (t578 == bt592.2.2.2.2.2.1 && (t579 == bt592.2.2.2.2.2.2.1 && (t580 == bt592.2.2.2.2.2.2.2)))))))) else (some false)) else (some false))) = some r := by rw [if_pos rfl] at H; exact H
           clear H
           have H := H1
           clear H1
           replace H := Option.bind_eq_some_iff.mp H
           obtain ⟨⟨t584, t585, t586, t587, t588, t589, t590, t591⟩, A1570, H⟩ := H
           replace H : (if ((t563 == t584 && (t564 == t585 && (t565 == t586 && (t566 == t587)))) && ((t567 == t588 && (t568 == t589 && (t569 == t590 && (t570 == t591)))))) = true then (if t581 = true then ((spec_Hull.f k3 t487 t488 t489 t490 t491 t492 t493 t494 t487 t488 t489 t490 t491 t492 t493 t494).bind fun bt592 => (some ((t573 == bt592.1 && (t574 == bt592.2.1 && (t575 == bt592.2.2.1 && (t576 == bt592.2.2.2.1)))) && ((t577 == bt592.2.2.2.2.1 && (t578 == bt592.2.2.2.2.2.1 && (t579 == bt592.2.2.2.2.2.2.1 && (t580 == bt592.2.2.2.2.2.2.2)))))))) else (some false)) else (some false)) = some r := H
           have A157 := Aside0.mk A1570
           clear A1570
           by_cases c158 : ((t563 == t584 && (t564 == t585 && (t565 == t586 && (t566 == t587)))) && ((t567 == t588 && (t568 == t589 && (t569 == t590 && (t570 == t591)))))) = true
           ·rw [if_pos c158] at H
            have c158b0 : ((t563 == t584 && (t564 == t585 && (t565 == t586 && (t566 == t587)))) && ((t567 == t588 && (t568 == t589 && (t569 == t590 && (t570 == t591)))))) = true := c158
            clear c158
            by_cases c159 : t581 = true
            ·subst c159
             have H1 : ((spec_Hull.f k3 t487 t488 t489 t490 t491 t492 t493 t494 t487 t488 t489 t490 t491 t492 t493 t494).bind fun bt592 => (some ((t573 == bt592.1 && (t574 == bt592.2.1 && (t575 == bt592.2.2.1 && (t576 == bt592.2.2.2.1)))) && ((t577 == bt592.2.2.2.2.1 && (t578 == bt592.2.2.2.2.2.1 && (t579 == bt592.2.2.2.2.2.2.1 && (t580 == bt592.2.2.2.2.2.2.2)))))))) = some r := by rw [if_pos rfl] at H; exact H
             clear H
             have H := H1
             clear H1
             replace H := Option.bind_eq_some_iff.mp H
             obtain ⟨⟨t592, t593, t594, t595, t596, t597, t598, t599⟩, A1600, H⟩ := H
             replace H : (some ((t573 == t592 && (t574 == t593 && (t575 == t594 && (t576 == t595)))) && ((t577 == t596 && (t578 == t597 && (t579 == t598 && (t580 == t599))))))) = some r := H
             have A160 := Aside0.mk A1600
             clear A1600
             obtain rfl := Option.some.inj H
             have hnb161 := NB495_496.out
             have hnc161 := NB496_495.out
             have hnb162 := NB495_506.out
             have hnc162 := NB506_495.out
             have hcz163_0 : wr.cell? ⟨gb495, 0, none⟩ = some (.int .i64 t479) := (z0q BK495.out 0).trans rfl
             have hcz163_1 : wr.cell? ⟨gb495, 1, none⟩ = some (.int .i64 t480) := (z0q BK495.out 1).trans rfl
             have hcz163_2 : wr.cell? ⟨gb495, 2, none⟩ = some (.bool t481) := (z0q BK495.out 2).trans rfl
             have hcz163_3 : wr.cell? ⟨gb495, 3, none⟩ = some (.bool t482) := (z0q BK495.out 3).trans rfl
             have hcz163_4 : wr.cell? ⟨gb495, 4, none⟩ = some (.int .i64 t483) := (z0q BK495.out 4).trans rfl
             have hcz163_5 : wr.cell? ⟨gb495, 5, none⟩ = some (.int .i64 t484) := (z0q BK495.out 5).trans rfl
             have hcz163_6 : wr.cell? ⟨gb495, 6, none⟩ = some (.bool t485) := (z0q BK495.out 6).trans rfl
             have hcz163_7 : wr.cell? ⟨gb495, 7, none⟩ = some (.bool t486) := (z0q BK495.out 7).trans rfl
             have hfz163_0 := z1q BK495.out 0
             have hfz163_1 := z1q BK495.out 1
             have hfz163_2 := z1q BK495.out 2
             have hfz163_3 := z1q BK495.out 3
             have hfz163_4 := z1q BK495.out 4
             have hfz163_5 := z1q BK495.out 5
             have hfz163_6 := z1q BK495.out 6
             have hfz163_7 := z1q BK495.out 7
             have hnb164 := NB496_506.out
             have hnc164 := NB506_496.out
             have hcz165_0 : wr.cell? ⟨gb496, 0, none⟩ = some (.int .i64 t487) := (z0q BK496.out 0).trans rfl
             have hcz165_1 : wr.cell? ⟨gb496, 1, none⟩ = some (.int .i64 t488) := (z0q BK496.out 1).trans rfl
             have hcz165_2 : wr.cell? ⟨gb496, 2, none⟩ = some (.bool t489) := (z0q BK496.out 2).trans rfl
             have hcz165_3 : wr.cell? ⟨gb496, 3, none⟩ = some (.bool t490) := (z0q BK496.out 3).trans rfl
             have hcz165_4 : wr.cell? ⟨gb496, 4, none⟩ = some (.int .i64 t491) := (z0q BK496.out 4).trans rfl
             have hcz165_5 : wr.cell? ⟨gb496, 5, none⟩ = some (.int .i64 t492) := (z0q BK496.out 5).trans rfl
             have hcz165_6 : wr.cell? ⟨gb496, 6, none⟩ = some (.bool t493) := (z0q BK496.out 6).trans rfl
             have hcz165_7 : wr.cell? ⟨gb496, 7, none⟩ = some (.bool t494) := (z0q BK496.out 7).trans rfl
             have hfz165_0 := z1q BK496.out 0
             have hfz165_1 := z1q BK496.out 1
             have hfz165_2 := z1q BK496.out 2
             have hfz165_3 := z1q BK496.out 3
             have hfz165_4 := z1q BK496.out 4
             have hfz165_5 := z1q BK496.out 5
             have hfz165_6 := z1q BK496.out 6
             have hfz165_7 := z1q BK496.out 7
             try go_wp2_with (first | ((with_reducible refine z15q (f := 10) rfl ?_); refine z23q (some 107) rfl rfl Try.func10 (by kernel_rfl) rfl #[.agg #[.int .i64 t479, .int .i64 t480, .bool t481, .bool t482, .int .i64 t483, .int .i64 t484, .bool t485, .bool t486], .agg #[.int .i64 t487, .int .i64 t488, .bool t489, .bool t490, .int .i64 t491, .int .i64 t492, .bool t493, .bool t494]] rfl (by (try simp only [map_toArray, map_cons, map_nil]); first | done | rfl | (simp only [length_drop, length_take]; rfl)) ?_; (with_reducible refine (impl_Hull.calls k3 t479 t480 t481 t482 t483 t484 t485 t486 t487 t488 t489 t490 t491 t492 t493 t494 t554 t555 t556 t557 t558 t559 t560 t561 _ A151.out).mono ?_); rintro e w166 ⟨rfl, hb⟩; refine ⟨_, rfl, ?_⟩; have n0_ := Aside0.mk (Kd.R_below (ro HO_7.out) hb); have n1_ := Aside0.mk (Kd.R_below (ro HO_70.out) hb); have n2_ := Aside0.mk (z2q (cy BK495.out) hb); have n3_ := Aside0.mk (z2q (cy BK496.out) hb); have n4_ := Aside0.mk (z2q (cy BK506.out) hb); have n5_ := Aside0.mk (z8q (ibh HB.out) hb); clear HO_7; clear HO_70; clear BK495; clear BK496; clear BK506; clear HB; have HO_7 := n0_; have HO_70 := n1_; have BK495 := n2_; have BK496 := n3_; have BK506 := n4_; have HB := n5_; clear n0_ n1_ n2_ n3_ n4_ n5_; (try clear hb); (try clear hb2); (try clear hk); (try clear hi)) | ((with_reducible refine z22q (N := 17) rfl ?_); (try (refine gate_guard (by rfl) ?_; dsimp only)); refine z20q ?hg (N := 17) ?hd (cs := #[.int .i64 0, .int .i64 0, .bool false, .bool false, .int .i64 0, .int .i64 0, .bool false, .bool false]) (t := 26) ?hr ?_; (case hd => rfl); (case hg => rfl); (case hr => first | (go_simp; done) | (go_simp; rfl)); intro gb562 hg w167 hbox hb; have n0_ := Aside0.mk (Kd.R_below (Kd.R_elderB (ro HO_7.out) gb562 (Nat.le_of_eq hg.symm)) hb); have n1_ := Aside0.mk (Kd.R_below (Kd.R_elderB (ro HO_70.out) gb562 (Nat.le_of_eq hg.symm)) hb); have n2_ := Aside0.mk (z2q (cy BK495.out) hb); have n3_ := Aside0.mk (z2q (cy BK496.out) hb); have n4_ := Aside0.mk (z2q (cy BK506.out) hb); have n5_ := Aside0.mk (z8q (ibh HB.out) hb); have n6_ := Aside0.mk (hbox); have n7_ := Aside0.mk ((by rw [hg]; exact (z13q (ibh HB.out)) : w.heap.size ≤ gb562)); have n8_ := Aside0.mk ((by rw [hg]; exact (z13q (ibh HB.out)) : w.heap.size ≤ gb562)); have n9_ := Aside0.mk ((by rw [hg]; exact Nat.ne_of_lt (z14q (cy BK495.out)) : gb495 ≠ gb562)); have n10_ := Aside0.mk ((by rw [hg]; exact Nat.ne_of_gt (z14q (cy BK495.out)) : gb562 ≠ gb495)); have n11_ := Aside0.mk ((by rw [hg]; exact Nat.ne_of_lt (z14q (cy BK496.out)) : gb496 ≠ gb562)); have n12_ := Aside0.mk ((by rw [hg]; exact Nat.ne_of_gt (z14q (cy BK496.out)) : gb562 ≠ gb496)); have n13_ := Aside0.mk ((by rw [hg]; exact Nat.ne_of_lt (z14q (cy BK506.out)) : gb506 ≠ gb562)); have n14_ := Aside0.mk ((by rw [hg]; exact Nat.ne_of_gt (z14q (cy BK506.out)) : gb562 ≠ gb506)); clear HO_7; clear HO_70; clear BK495; clear BK496; clear BK506; clear HB; have HO_7 := n0_; have HO_70 := n1_; have BK495 := n2_; have BK496 := n3_; have BK506 := n4_; have HB := n5_; have BK562 := n6_; have GW562 := n7_; have GE562 := n8_; have NB495_562 := n9_; have NB562_495 := n10_; have NB496_562 := n11_; have NB562_496 := n12_; have NB506_562 := n13_; have NB562_506 := n14_; clear n0_ n1_ n2_ n3_ n4_ n5_ n6_ n7_ n8_ n9_ n10_ n11_ n12_ n13_ n14_; clear hb hbox hg; have hnb168 := NB562_495.out; have hnc168 := NB495_562.out; have hnb169 := NB562_496.out; have hnc169 := NB496_562.out; have hnb170 := NB562_506.out; have hnc170 := NB506_562.out; have hcz171_0 : w167.cell? ⟨gb562, 0, none⟩ = some (.int .i64 0) := (z0q BK562.out 0).trans rfl; have hcz171_1 : w167.cell? ⟨gb562, 1, none⟩ = some (.int .i64 0) := (z0q BK562.out 1).trans rfl; have hcz171_2 : w167.cell? ⟨gb562, 2, none⟩ = some (.bool false) := (z0q BK562.out 2).trans rfl; have hcz171_3 : w167.cell? ⟨gb562, 3, none⟩ = some (.bool false) := (z0q BK562.out 3).trans rfl; have hcz171_4 : w167.cell? ⟨gb562, 4, none⟩ = some (.int .i64 0) := (z0q BK562.out 4).trans rfl; have hcz171_5 : w167.cell? ⟨gb562, 5, none⟩ = some (.int .i64 0) := (z0q BK562.out 5).trans rfl; have hcz171_6 : w167.cell? ⟨gb562, 6, none⟩ = some (.bool false) := (z0q BK562.out 6).trans rfl; have hcz171_7 : w167.cell? ⟨gb562, 7, none⟩ = some (.bool false) := (z0q BK562.out 7).trans rfl; have hfz171_0 := z1q BK562.out 0; have hfz171_1 := z1q BK562.out 1; have hfz171_2 := z1q BK562.out 2; have hfz171_3 := z1q BK562.out 3; have hfz171_4 := z1q BK562.out 4; have hfz171_5 := z1q BK562.out 5; have hfz171_6 := z1q BK562.out 6; have hfz171_7 := z1q BK562.out 7; have hcz172_0 : w167.cell? ⟨gb495, 0, none⟩ = some (.int .i64 t479) := (z0q BK495.out 0).trans rfl; have hcz172_1 : w167.cell? ⟨gb495, 1, none⟩ = some (.int .i64 t480) := (z0q BK495.out 1).trans rfl; have hcz172_2 : w167.cell? ⟨gb495, 2, none⟩ = some (.bool t481) := (z0q BK495.out 2).trans rfl; have hcz172_3 : w167.cell? ⟨gb495, 3, none⟩ = some (.bool t482) := (z0q BK495.out 3).trans rfl; have hcz172_4 : w167.cell? ⟨gb495, 4, none⟩ = some (.int .i64 t483) := (z0q BK495.out 4).trans rfl; have hcz172_5 : w167.cell? ⟨gb495, 5, none⟩ = some (.int .i64 t484) := (z0q BK495.out 5).trans rfl; have hcz172_6 : w167.cell? ⟨gb495, 6, none⟩ = some (.bool t485) := (z0q BK495.out 6).trans rfl; have hcz172_7 : w167.cell? ⟨gb495, 7, none⟩ = some (.bool t486) := (z0q BK495.out 7).trans rfl; have hfz172_0 := z1q BK495.out 0; have hfz172_1 := z1q BK495.out 1; have hfz172_2 := z1q BK495.out 2; have hfz172_3 := z1q BK495.out 3; have hfz172_4 := z1q BK495.out 4; have hfz172_5 := z1q BK495.out 5; have hfz172_6 := z1q BK495.out 6; have hfz172_7 := z1q BK495.out 7) | ((with_reducible refine z15q (f := 5) rfl ?_); refine z23q (some 111) rfl rfl Try.func5 (by kernel_rfl) rfl #[.agg #[.int .i64 t554, .int .i64 t555, .bool t556, .bool t557, .int .i64 t558, .int .i64 t559, .bool t560, .bool t561], .agg #[.int .i64 t479, .int .i64 t480, .bool t481, .bool t482, .int .i64 t483, .int .i64 t484, .bool t485, .bool t486]] rfl (by (try simp only [map_toArray, map_cons, map_nil]); first | done | rfl | (simp only [length_drop, length_take]; rfl)) ?_; (with_reducible refine (impl_Meet.calls k3 t554 t555 t556 t557 t558 t559 t560 t561 t479 t480 t481 t482 t483 t484 t485 t486 t563 t564 t565 t566 t567 t568 t569 t570 true _ A152.out).mono ?_); rintro e w173 ⟨rfl, hb⟩; refine ⟨_, rfl, ?_⟩; have n0_ := Aside0.mk (Kd.R_below (by (with_reducible repeat (first | apply Kd.R_alloc | apply Kd.R_drewN | apply Kd.R_drew)); exact (Kd.R_mono (Kd.R_far (p := ⟨gb562, 7, none⟩) (Kd.R_far (p := ⟨gb562, 6, none⟩) (Kd.R_far (p := ⟨gb562, 5, none⟩) (Kd.R_far (p := ⟨gb562, 4, none⟩) (Kd.R_far (p := ⟨gb562, 3, none⟩) (Kd.R_far (p := ⟨gb562, 2, none⟩) (Kd.R_far (p := ⟨gb562, 1, none⟩) (Kd.R_far (p := ⟨gb562, 0, none⟩) (Kd.R_mono HO_7.out (fun k_ hk => (⟨hk, hk.2⟩ : _ ∧ k_ ≠ gb562))) (fun _ hk => hk.2) (.int .i64 t554)) (fun _ hk => hk.2) (.int .i64 t555)) (fun _ hk => hk.2) (.bool t556)) (fun _ hk => hk.2) (.bool t557)) (fun _ hk => hk.2) (.int .i64 t558)) (fun _ hk => hk.2) (.int .i64 t559)) (fun _ hk => hk.2) (.bool t560)) (fun _ hk => hk.2) (.bool t561)) (fun _ h_ => h_.1))) hb); have n1_ := Aside0.mk (Kd.R_below (by (with_reducible repeat (first | apply Kd.R_alloc | apply Kd.R_drewN | apply Kd.R_drew)); exact (Kd.R_mono (Kd.R_far (p := ⟨gb562, 7, none⟩) (Kd.R_far (p := ⟨gb562, 6, none⟩) (Kd.R_far (p := ⟨gb562, 5, none⟩) (Kd.R_far (p := ⟨gb562, 4, none⟩) (Kd.R_far (p := ⟨gb562, 3, none⟩) (Kd.R_far (p := ⟨gb562, 2, none⟩) (Kd.R_far (p := ⟨gb562, 1, none⟩) (Kd.R_far (p := ⟨gb562, 0, none⟩) (Kd.R_mono HO_70.out (fun k_ hk => (⟨hk, hk.2⟩ : _ ∧ k_ ≠ gb562))) (fun _ hk => hk.2) (.int .i64 t554)) (fun _ hk => hk.2) (.int .i64 t555)) (fun _ hk => hk.2) (.bool t556)) (fun _ hk => hk.2) (.bool t557)) (fun _ hk => hk.2) (.int .i64 t558)) (fun _ hk => hk.2) (.int .i64 t559)) (fun _ hk => hk.2) (.bool t560)) (fun _ hk => hk.2) (.bool t561)) (fun _ h_ => h_.1))) hb); have n2_ := Aside0.mk (z2q (cy BK495.out) hb); have n3_ := Aside0.mk (z2q (cy BK496.out) hb); have n4_ := Aside0.mk (z2q (cy BK506.out) hb); have n5_ := Aside0.mk (z2q (g := gb562) (o := .cells #[.int .i64 t554, .int .i64 t555, .bool t556, .bool t557, .int .i64 t558, .int .i64 t559, .bool t560, .bool t561] 26 (0, 0)) (by refine cz ?_; refine z6q (cs := #[.int .i64 t554, .int .i64 t555, .bool t556, .bool t557, .int .i64 t558, .int .i64 t559, .bool t560, .bool false]) ?_ 7 _ rfl; refine cz ?_; refine z6q (cs := #[.int .i64 t554, .int .i64 t555, .bool t556, .bool t557, .int .i64 t558, .int .i64 t559, .bool false, .bool false]) ?_ 6 _ rfl; refine cz ?_; refine z6q (cs := #[.int .i64 t554, .int .i64 t555, .bool t556, .bool t557, .int .i64 t558, .int .i64 0, .bool false, .bool false]) ?_ 5 _ rfl; refine cz ?_; refine z6q (cs := #[.int .i64 t554, .int .i64 t555, .bool t556, .bool t557, .int .i64 0, .int .i64 0, .bool false, .bool false]) ?_ 4 _ rfl; refine cz ?_; refine z6q (cs := #[.int .i64 t554, .int .i64 t555, .bool t556, .bool false, .int .i64 0, .int .i64 0, .bool false, .bool false]) ?_ 3 _ rfl; refine cz ?_; refine z6q (cs := #[.int .i64 t554, .int .i64 t555, .bool false, .bool false, .int .i64 0, .int .i64 0, .bool false, .bool false]) ?_ 2 _ rfl; refine cz ?_; refine z6q (cs := #[.int .i64 t554, .int .i64 0, .bool false, .bool false, .int .i64 0, .int .i64 0, .bool false, .bool false]) ?_ 1 _ rfl; refine cz ?_; refine z6q (cs := #[.int .i64 0, .int .i64 0, .bool false, .bool false, .int .i64 0, .int .i64 0, .bool false, .bool false]) ?_ 0 _ rfl; exact cy BK562.out) hb); have n6_ := Aside0.mk (z8q (ibh HB.out) hb); clear HO_7; clear HO_70; clear BK495; clear BK496; clear BK506; clear BK562; clear HB; have HO_7 := n0_; have HO_70 := n1_; have BK495 := n2_; have BK496 := n3_; have BK506 := n4_; have BK562 := n5_; have HB := n6_; clear n0_ n1_ n2_ n3_ n4_ n5_ n6_; (try clear hb); (try clear hb2); (try clear hk); (try clear hi)) | ((with_reducible refine z22q (N := 18) rfl ?_); (try (refine gate_guard (by rfl) ?_; dsimp only)); refine z20q ?hg (N := 18) ?hd (cs := #[.int .i64 0, .int .i64 0, .bool false, .bool false, .int .i64 0, .int .i64 0, .bool false, .bool false]) (t := 26) ?hr ?_; (case hd => rfl); (case hg => rfl); (case hr => first | (go_simp; done) | (go_simp; rfl)); intro gb572 hg w174 hbox hb; have n0_ := Aside0.mk (Kd.R_below (Kd.R_elderB (ro HO_7.out) gb572 (Nat.le_of_eq hg.symm)) hb); have n1_ := Aside0.mk (Kd.R_below (Kd.R_elderB (ro HO_70.out) gb572 (Nat.le_of_eq hg.symm)) hb); have n2_ := Aside0.mk (z2q (cy BK495.out) hb); have n3_ := Aside0.mk (z2q (cy BK496.out) hb); have n4_ := Aside0.mk (z2q (cy BK506.out) hb); have n5_ := Aside0.mk (z2q (cy BK562.out) hb); have n6_ := Aside0.mk (z8q (ibh HB.out) hb); have n7_ := Aside0.mk (hbox); have n8_ := Aside0.mk ((by rw [hg]; exact (z13q (ibh HB.out)) : w.heap.size ≤ gb572)); have n9_ := Aside0.mk ((by rw [hg]; exact (z13q (ibh HB.out)) : w.heap.size ≤ gb572)); have n10_ := Aside0.mk ((by rw [hg]; exact Nat.ne_of_lt (z14q (cy BK495.out)) : gb495 ≠ gb572)); have n11_ := Aside0.mk ((by rw [hg]; exact Nat.ne_of_gt (z14q (cy BK495.out)) : gb572 ≠ gb495)); have n12_ := Aside0.mk ((by rw [hg]; exact Nat.ne_of_lt (z14q (cy BK496.out)) : gb496 ≠ gb572)); have n13_ := Aside0.mk ((by rw [hg]; exact Nat.ne_of_gt (z14q (cy BK496.out)) : gb572 ≠ gb496)); have n14_ := Aside0.mk ((by rw [hg]; exact Nat.ne_of_lt (z14q (cy BK506.out)) : gb506 ≠ gb572)); have n15_ := Aside0.mk ((by rw [hg]; exact Nat.ne_of_gt (z14q (cy BK506.out)) : gb572 ≠ gb506)); have n16_ := Aside0.mk ((by rw [hg]; exact Nat.ne_of_lt (z14q (cy BK562.out)) : gb562 ≠ gb572)); have n17_ := Aside0.mk ((by rw [hg]; exact Nat.ne_of_gt (z14q (cy BK562.out)) : gb572 ≠ gb562)); clear HO_7; clear HO_70; clear BK495; clear BK496; clear BK506; clear BK562; clear HB; have HO_7 := n0_; have HO_70 := n1_; have BK495 := n2_; have BK496 := n3_; have BK506 := n4_; have BK562 := n5_; have HB := n6_; have BK572 := n7_; have GW572 := n8_; have GE572 := n9_; have NB495_572 := n10_; have NB572_495 := n11_; have NB496_572 := n12_; have NB572_496 := n13_; have NB506_572 := n14_; have NB572_506 := n15_; have NB562_572 := n16_; have NB572_562 := n17_; clear n0_ n1_ n2_ n3_ n4_ n5_ n6_ n7_ n8_ n9_ n10_ n11_ n12_ n13_ n14_ n15_ n16_ n17_; clear hb hbox hg; have hnb175 := NB572_495.out; have hnc175 := NB495_572.out; have hnb176 := NB572_496.out; have hnc176 := NB496_572.out; have hnb177 := NB572_506.out; have hnc177 := NB506_572.out; have hnb178 := NB572_562.out; have hnc178 := NB562_572.out; have hcz179_0 : w174.cell? ⟨gb572, 0, none⟩ = some (.int .i64 0) := (z0q BK572.out 0).trans rfl; have hcz179_1 : w174.cell? ⟨gb572, 1, none⟩ = some (.int .i64 0) := (z0q BK572.out 1).trans rfl; have hcz179_2 : w174.cell? ⟨gb572, 2, none⟩ = some (.bool false) := (z0q BK572.out 2).trans rfl; have hcz179_3 : w174.cell? ⟨gb572, 3, none⟩ = some (.bool false) := (z0q BK572.out 3).trans rfl; have hcz179_4 : w174.cell? ⟨gb572, 4, none⟩ = some (.int .i64 0) := (z0q BK572.out 4).trans rfl; have hcz179_5 : w174.cell? ⟨gb572, 5, none⟩ = some (.int .i64 0) := (z0q BK572.out 5).trans rfl; have hcz179_6 : w174.cell? ⟨gb572, 6, none⟩ = some (.bool false) := (z0q BK572.out 6).trans rfl; have hcz179_7 : w174.cell? ⟨gb572, 7, none⟩ = some (.bool false) := (z0q BK572.out 7).trans rfl; have hfz179_0 := z1q BK572.out 0; have hfz179_1 := z1q BK572.out 1; have hfz179_2 := z1q BK572.out 2; have hfz179_3 := z1q BK572.out 3; have hfz179_4 := z1q BK572.out 4; have hfz179_5 := z1q BK572.out 5; have hfz179_6 := z1q BK572.out 6; have hfz179_7 := z1q BK572.out 7; have hcz180_0 : w174.cell? ⟨gb562, 0, none⟩ = some (.int .i64 t554) := (z0q BK562.out 0).trans rfl; have hcz180_1 : w174.cell? ⟨gb562, 1, none⟩ = some (.int .i64 t555) := (z0q BK562.out 1).trans rfl; have hcz180_2 : w174.cell? ⟨gb562, 2, none⟩ = some (.bool t556) := (z0q BK562.out 2).trans rfl; have hcz180_3 : w174.cell? ⟨gb562, 3, none⟩ = some (.bool t557) := (z0q BK562.out 3).trans rfl; have hcz180_4 : w174.cell? ⟨gb562, 4, none⟩ = some (.int .i64 t558) := (z0q BK562.out 4).trans rfl; have hcz180_5 : w174.cell? ⟨gb562, 5, none⟩ = some (.int .i64 t559) := (z0q BK562.out 5).trans rfl; have hcz180_6 : w174.cell? ⟨gb562, 6, none⟩ = some (.bool t560) := (z0q BK562.out 6).trans rfl; have hcz180_7 : w174.cell? ⟨gb562, 7, none⟩ = some (.bool t561) := (z0q BK562.out 7).trans rfl; have hfz180_0 := z1q BK562.out 0; have hfz180_1 := z1q BK562.out 1; have hfz180_2 := z1q BK562.out 2; have hfz180_3 := z1q BK562.out 3; have hfz180_4 := z1q BK562.out 4; have hfz180_5 := z1q BK562.out 5; have hfz180_6 := z1q BK562.out 6; have hfz180_7 := z1q BK562.out 7; have hcz181_0 : w174.cell? ⟨gb496, 0, none⟩ = some (.int .i64 t487) := (z0q BK496.out 0).trans rfl; have hcz181_1 : w174.cell? ⟨gb496, 1, none⟩ = some (.int .i64 t488) := (z0q BK496.out 1).trans rfl; have hcz181_2 : w174.cell? ⟨gb496, 2, none⟩ = some (.bool t489) := (z0q BK496.out 2).trans rfl; have hcz181_3 : w174.cell? ⟨gb496, 3, none⟩ = some (.bool t490) := (z0q BK496.out 3).trans rfl; have hcz181_4 : w174.cell? ⟨gb496, 4, none⟩ = some (.int .i64 t491) := (z0q BK496.out 4).trans rfl; have hcz181_5 : w174.cell? ⟨gb496, 5, none⟩ = some (.int .i64 t492) := (z0q BK496.out 5).trans rfl; have hcz181_6 : w174.cell? ⟨gb496, 6, none⟩ = some (.bool t493) := (z0q BK496.out 6).trans rfl; have hcz181_7 : w174.cell? ⟨gb496, 7, none⟩ = some (.bool t494) := (z0q BK496.out 7).trans rfl; have hfz181_0 := z1q BK496.out 0; have hfz181_1 := z1q BK496.out 1; have hfz181_2 := z1q BK496.out 2; have hfz181_3 := z1q BK496.out 3; have hfz181_4 := z1q BK496.out 4; have hfz181_5 := z1q BK496.out 5; have hfz181_6 := z1q BK496.out 6; have hfz181_7 := z1q BK496.out 7) | ((with_reducible refine z15q (f := 5) rfl ?_); refine z23q (some 117) rfl rfl Try.func5 (by kernel_rfl) rfl #[.agg #[.int .i64 t554, .int .i64 t555, .bool t556, .bool t557, .int .i64 t558, .int .i64 t559, .bool t560, .bool t561], .agg #[.int .i64 t487, .int .i64 t488, .bool t489, .bool t490, .int .i64 t491, .int .i64 t492, .bool t493, .bool t494]] rfl (by (try simp only [map_toArray, map_cons, map_nil]); first | done | rfl | (simp only [length_drop, length_take]; rfl)) ?_; (with_reducible refine (impl_Meet.calls k3 t554 t555 t556 t557 t558 t559 t560 t561 t487 t488 t489 t490 t491 t492 t493 t494 t573 t574 t575 t576 t577 t578 t579 t580 true _ A153.out).mono ?_); rintro e w182 ⟨rfl, hb⟩; refine ⟨_, rfl, ?_⟩; have n0_ := Aside0.mk (Kd.R_below (by (with_reducible repeat (first | apply Kd.R_alloc | apply Kd.R_drewN | apply Kd.R_drew)); exact (Kd.R_mono (Kd.R_far (p := ⟨gb572, 7, none⟩) (Kd.R_far (p := ⟨gb572, 6, none⟩) (Kd.R_far (p := ⟨gb572, 5, none⟩) (Kd.R_far (p := ⟨gb572, 4, none⟩) (Kd.R_far (p := ⟨gb572, 3, none⟩) (Kd.R_far (p := ⟨gb572, 2, none⟩) (Kd.R_far (p := ⟨gb572, 1, none⟩) (Kd.R_far (p := ⟨gb572, 0, none⟩) (Kd.R_mono HO_7.out (fun k_ hk => (⟨hk, hk.2⟩ : _ ∧ k_ ≠ gb572))) (fun _ hk => hk.2) (.int .i64 t563)) (fun _ hk => hk.2) (.int .i64 t564)) (fun _ hk => hk.2) (.bool t565)) (fun _ hk => hk.2) (.bool t566)) (fun _ hk => hk.2) (.int .i64 t567)) (fun _ hk => hk.2) (.int .i64 t568)) (fun _ hk => hk.2) (.bool t569)) (fun _ hk => hk.2) (.bool t570)) (fun _ h_ => h_.1))) hb); have n1_ := Aside0.mk (Kd.R_below (by (with_reducible repeat (first | apply Kd.R_alloc | apply Kd.R_drewN | apply Kd.R_drew)); exact (Kd.R_mono (Kd.R_far (p := ⟨gb572, 7, none⟩) (Kd.R_far (p := ⟨gb572, 6, none⟩) (Kd.R_far (p := ⟨gb572, 5, none⟩) (Kd.R_far (p := ⟨gb572, 4, none⟩) (Kd.R_far (p := ⟨gb572, 3, none⟩) (Kd.R_far (p := ⟨gb572, 2, none⟩) (Kd.R_far (p := ⟨gb572, 1, none⟩) (Kd.R_far (p := ⟨gb572, 0, none⟩) (Kd.R_mono HO_70.out (fun k_ hk => (⟨hk, hk.2⟩ : _ ∧ k_ ≠ gb572))) (fun _ hk => hk.2) (.int .i64 t563)) (fun _ hk => hk.2) (.int .i64 t564)) (fun _ hk => hk.2) (.bool t565)) (fun _ hk => hk.2) (.bool t566)) (fun _ hk => hk.2) (.int .i64 t567)) (fun _ hk => hk.2) (.int .i64 t568)) (fun _ hk => hk.2) (.bool t569)) (fun _ hk => hk.2) (.bool t570)) (fun _ h_ => h_.1))) hb); have n2_ := Aside0.mk (z2q (cy BK495.out) hb); have n3_ := Aside0.mk (z2q (cy BK496.out) hb); have n4_ := Aside0.mk (z2q (cy BK506.out) hb); have n5_ := Aside0.mk (z2q (cy BK562.out) hb); have n6_ := Aside0.mk (z2q (g := gb572) (o := .cells #[.int .i64 t563, .int .i64 t564, .bool t565, .bool t566, .int .i64 t567, .int .i64 t568, .bool t569, .bool t570] 26 (0, 0)) (by refine cz ?_; refine z6q (cs := #[.int .i64 t563, .int .i64 t564, .bool t565, .bool t566, .int .i64 t567, .int .i64 t568, .bool t569, .bool false]) ?_ 7 _ rfl; refine cz ?_; refine z6q (cs := #[.int .i64 t563, .int .i64 t564, .bool t565, .bool t566, .int .i64 t567, .int .i64 t568, .bool false, .bool false]) ?_ 6 _ rfl; refine cz ?_; refine z6q (cs := #[.int .i64 t563, .int .i64 t564, .bool t565, .bool t566, .int .i64 t567, .int .i64 0, .bool false, .bool false]) ?_ 5 _ rfl; refine cz ?_; refine z6q (cs := #[.int .i64 t563, .int .i64 t564, .bool t565, .bool t566, .int .i64 0, .int .i64 0, .bool false, .bool false]) ?_ 4 _ rfl; refine cz ?_; refine z6q (cs := #[.int .i64 t563, .int .i64 t564, .bool t565, .bool false, .int .i64 0, .int .i64 0, .bool false, .bool false]) ?_ 3 _ rfl; refine cz ?_; refine z6q (cs := #[.int .i64 t563, .int .i64 t564, .bool false, .bool false, .int .i64 0, .int .i64 0, .bool false, .bool false]) ?_ 2 _ rfl; refine cz ?_; refine z6q (cs := #[.int .i64 t563, .int .i64 0, .bool false, .bool false, .int .i64 0, .int .i64 0, .bool false, .bool false]) ?_ 1 _ rfl; refine cz ?_; refine z6q (cs := #[.int .i64 0, .int .i64 0, .bool false, .bool false, .int .i64 0, .int .i64 0, .bool false, .bool false]) ?_ 0 _ rfl; exact cy BK572.out) hb); have n7_ := Aside0.mk (z8q (ibh HB.out) hb); clear HO_7; clear HO_70; clear BK495; clear BK496; clear BK506; clear BK562; clear BK572; clear HB; have HO_7 := n0_; have HO_70 := n1_; have BK495 := n2_; have BK496 := n3_; have BK506 := n4_; have BK562 := n5_; have BK572 := n6_; have HB := n7_; clear n0_ n1_ n2_ n3_ n4_ n5_ n6_ n7_; (try clear hb); (try clear hb2); (try clear hk); (try clear hi)) | ((with_reducible refine z22q (N := 20) rfl ?_); (try (refine gate_guard (by rfl) ?_; dsimp only)); refine z20q ?hg (N := 20) ?hd (cs := #[.int .i64 0, .int .i64 0, .bool false, .bool false, .int .i64 0, .int .i64 0, .bool false, .bool false]) (t := 26) ?hr ?_; (case hd => rfl); (case hg => rfl); (case hr => first | (go_simp; done) | (go_simp; rfl)); intro gb582 hg w183 hbox hb; have n0_ := Aside0.mk (Kd.R_below (Kd.R_elderB (ro HO_7.out) gb582 (Nat.le_of_eq hg.symm)) hb); have n1_ := Aside0.mk (Kd.R_below (Kd.R_elderB (ro HO_70.out) gb582 (Nat.le_of_eq hg.symm)) hb); have n2_ := Aside0.mk (z2q (cy BK495.out) hb); have n3_ := Aside0.mk (z2q (cy BK496.out) hb); have n4_ := Aside0.mk (z2q (cy BK506.out) hb); have n5_ := Aside0.mk (z2q (cy BK562.out) hb); have n6_ := Aside0.mk (z2q (cy BK572.out) hb); have n7_ := Aside0.mk (z8q (ibh HB.out) hb); have n8_ := Aside0.mk (hbox); have n9_ := Aside0.mk ((by rw [hg]; exact (z13q (ibh HB.out)) : w.heap.size ≤ gb582)); have n10_ := Aside0.mk ((by rw [hg]; exact (z13q (ibh HB.out)) : w.heap.size ≤ gb582)); have n11_ := Aside0.mk ((by rw [hg]; exact Nat.ne_of_lt (z14q (cy BK495.out)) : gb495 ≠ gb582)); have n12_ := Aside0.mk ((by rw [hg]; exact Nat.ne_of_gt (z14q (cy BK495.out)) : gb582 ≠ gb495)); have n13_ := Aside0.mk ((by rw [hg]; exact Nat.ne_of_lt (z14q (cy BK496.out)) : gb496 ≠ gb582)); have n14_ := Aside0.mk ((by rw [hg]; exact Nat.ne_of_gt (z14q (cy BK496.out)) : gb582 ≠ gb496)); have n15_ := Aside0.mk ((by rw [hg]; exact Nat.ne_of_lt (z14q (cy BK506.out)) : gb506 ≠ gb582)); have n16_ := Aside0.mk ((by rw [hg]; exact Nat.ne_of_gt (z14q (cy BK506.out)) : gb582 ≠ gb506)); have n17_ := Aside0.mk ((by rw [hg]; exact Nat.ne_of_lt (z14q (cy BK562.out)) : gb562 ≠ gb582)); have n18_ := Aside0.mk ((by rw [hg]; exact Nat.ne_of_gt (z14q (cy BK562.out)) : gb582 ≠ gb562)); have n19_ := Aside0.mk ((by rw [hg]; exact Nat.ne_of_lt (z14q (cy BK572.out)) : gb572 ≠ gb582)); have n20_ := Aside0.mk ((by rw [hg]; exact Nat.ne_of_gt (z14q (cy BK572.out)) : gb582 ≠ gb572)); clear HO_7; clear HO_70; clear BK495; clear BK496; clear BK506; clear BK562; clear BK572; clear HB; have HO_7 := n0_; have HO_70 := n1_; have BK495 := n2_; have BK496 := n3_; have BK506 := n4_; have BK562 := n5_; have BK572 := n6_; have HB := n7_; have BK582 := n8_; have GW582 := n9_; have GE582 := n10_; have NB495_582 := n11_; have NB582_495 := n12_; have NB496_582 := n13_; have NB582_496 := n14_; have NB506_582 := n15_; have NB582_506 := n16_; have NB562_582 := n17_; have NB582_562 := n18_; have NB572_582 := n19_; have NB582_572 := n20_; clear n0_ n1_ n2_ n3_ n4_ n5_ n6_ n7_ n8_ n9_ n10_ n11_ n12_ n13_ n14_ n15_ n16_ n17_ n18_ n19_ n20_; clear hb hbox hg; have hnb184 := NB582_495.out; have hnc184 := NB495_582.out; have hnb185 := NB582_496.out; have hnc185 := NB496_582.out; have hnb186 := NB582_506.out; have hnc186 := NB506_582.out; have hnb187 := NB582_562.out; have hnc187 := NB562_582.out; have hnb188 := NB582_572.out; have hnc188 := NB572_582.out; have hcz189_0 : w183.cell? ⟨gb582, 0, none⟩ = some (.int .i64 0) := (z0q BK582.out 0).trans rfl; have hcz189_1 : w183.cell? ⟨gb582, 1, none⟩ = some (.int .i64 0) := (z0q BK582.out 1).trans rfl; have hcz189_2 : w183.cell? ⟨gb582, 2, none⟩ = some (.bool false) := (z0q BK582.out 2).trans rfl; have hcz189_3 : w183.cell? ⟨gb582, 3, none⟩ = some (.bool false) := (z0q BK582.out 3).trans rfl; have hcz189_4 : w183.cell? ⟨gb582, 4, none⟩ = some (.int .i64 0) := (z0q BK582.out 4).trans rfl; have hcz189_5 : w183.cell? ⟨gb582, 5, none⟩ = some (.int .i64 0) := (z0q BK582.out 5).trans rfl; have hcz189_6 : w183.cell? ⟨gb582, 6, none⟩ = some (.bool false) := (z0q BK582.out 6).trans rfl; have hcz189_7 : w183.cell? ⟨gb582, 7, none⟩ = some (.bool false) := (z0q BK582.out 7).trans rfl; have hfz189_0 := z1q BK582.out 0; have hfz189_1 := z1q BK582.out 1; have hfz189_2 := z1q BK582.out 2; have hfz189_3 := z1q BK582.out 3; have hfz189_4 := z1q BK582.out 4; have hfz189_5 := z1q BK582.out 5; have hfz189_6 := z1q BK582.out 6; have hfz189_7 := z1q BK582.out 7))
             have n0_ : Aside0 (Kd.R k26 26 ((((((((w183.setCell ⟨gb582, 0, none⟩ (.int .i64 t573)).setCell ⟨gb582, 1, none⟩ (.int .i64 t574)).setCell ⟨gb582, 2, none⟩ (.bool t575)).setCell ⟨gb582, 3, none⟩ (.bool t576)).setCell ⟨gb582, 4, none⟩ (.int .i64 t577)).setCell ⟨gb582, 5, none⟩ (.int .i64 t578)).setCell ⟨gb582, 6, none⟩ (.bool t579)).setCell ⟨gb582, 7, none⟩ (.bool t580)) w.heap.size (fun k_ => k_ ≠ gb495 ∧ k_ ≠ gb496 ∧ k_ ≠ gb506 ∧ k_ ≠ gb562 ∧ k_ ≠ gb572 ∧ k_ ≠ gb582) (.slice Ao27 t507.length co27) t507) := ⟨by (with_reducible repeat (first | apply Kd.R_alloc | apply Kd.R_drewN | apply Kd.R_drew)); exact Kd.R_mono (Kd.R_far (p := ⟨gb582, 7, none⟩) (Kd.R_far (p := ⟨gb582, 6, none⟩) (Kd.R_far (p := ⟨gb582, 5, none⟩) (Kd.R_far (p := ⟨gb582, 4, none⟩) (Kd.R_far (p := ⟨gb582, 3, none⟩) (Kd.R_far (p := ⟨gb582, 2, none⟩) (Kd.R_far (p := ⟨gb582, 1, none⟩) (Kd.R_far (p := ⟨gb582, 0, none⟩) (Kd.R_mono HO_7.out (fun k_ hk => (⟨hk, hk.2⟩ : _ ∧ k_ ≠ gb582))) (fun _ hk => hk.2) (.int .i64 t573)) (fun _ hk => hk.2) (.int .i64 t574)) (fun _ hk => hk.2) (.bool t575)) (fun _ hk => hk.2) (.bool t576)) (fun _ hk => hk.2) (.int .i64 t577)) (fun _ hk => hk.2) (.int .i64 t578)) (fun _ hk => hk.2) (.bool t579)) (fun _ hk => hk.2) (.bool t580)) (fun _ hk => ⟨hk.1.1.1.1.1, ⟨hk.1.1.1.1.2.1, ⟨hk.1.1.1.1.2.2, ⟨hk.1.1.1.2, ⟨hk.1.1.2, hk.1.2⟩⟩⟩⟩⟩)⟩
             have n1_ : Aside0 (Kd.R k26 26 ((((((((w183.setCell ⟨gb582, 0, none⟩ (.int .i64 t573)).setCell ⟨gb582, 1, none⟩ (.int .i64 t574)).setCell ⟨gb582, 2, none⟩ (.bool t575)).setCell ⟨gb582, 3, none⟩ (.bool t576)).setCell ⟨gb582, 4, none⟩ (.int .i64 t577)).setCell ⟨gb582, 5, none⟩ (.int .i64 t578)).setCell ⟨gb582, 6, none⟩ (.bool t579)).setCell ⟨gb582, 7, none⟩ (.bool t580)) w.heap.size (fun k_ => k_ ≠ gb495 ∧ k_ ≠ gb496 ∧ k_ ≠ gb506 ∧ k_ ≠ gb562 ∧ k_ ≠ gb572 ∧ k_ ≠ gb582) (.slice Ao27 t507.length co27) t507) := ⟨by (with_reducible repeat (first | apply Kd.R_alloc | apply Kd.R_drewN | apply Kd.R_drew)); exact Kd.R_mono (Kd.R_far (p := ⟨gb582, 7, none⟩) (Kd.R_far (p := ⟨gb582, 6, none⟩) (Kd.R_far (p := ⟨gb582, 5, none⟩) (Kd.R_far (p := ⟨gb582, 4, none⟩) (Kd.R_far (p := ⟨gb582, 3, none⟩) (Kd.R_far (p := ⟨gb582, 2, none⟩) (Kd.R_far (p := ⟨gb582, 1, none⟩) (Kd.R_far (p := ⟨gb582, 0, none⟩) (Kd.R_mono HO_70.out (fun k_ hk => (⟨hk, hk.2⟩ : _ ∧ k_ ≠ gb582))) (fun _ hk => hk.2) (.int .i64 t573)) (fun _ hk => hk.2) (.int .i64 t574)) (fun _ hk => hk.2) (.bool t575)) (fun _ hk => hk.2) (.bool t576)) (fun _ hk => hk.2) (.int .i64 t577)) (fun _ hk => hk.2) (.int .i64 t578)) (fun _ hk => hk.2) (.bool t579)) (fun _ hk => hk.2) (.bool t580)) (fun _ hk => ⟨hk.1.1.1.1.1, ⟨hk.1.1.1.1.2.1, ⟨hk.1.1.1.1.2.2, ⟨hk.1.1.1.2, ⟨hk.1.1.2, hk.1.2⟩⟩⟩⟩⟩)⟩
             have n2_ : Aside0 (((((((((w183.setCell ⟨gb582, 0, none⟩ (.int .i64 t573)).setCell ⟨gb582, 1, none⟩ (.int .i64 t574)).setCell ⟨gb582, 2, none⟩ (.bool t575)).setCell ⟨gb582, 3, none⟩ (.bool t576)).setCell ⟨gb582, 4, none⟩ (.int .i64 t577)).setCell ⟨gb582, 5, none⟩ (.int .i64 t578)).setCell ⟨gb582, 6, none⟩ (.bool t579)).setCell ⟨gb582, 7, none⟩ (.bool t580)).heap[gb495]? = some (.cells #[.int .i64 t479, .int .i64 t480, .bool t481, .bool t482, .int .i64 t483, .int .i64 t484, .bool t485, .bool t486] 26 (0, 0))) := ⟨by (with_reducible repeat (first | refine z11q ?_ _ | refine z10q ?_ | refine z4q ?_ _)); refine z18q ?_ NB495_582.out _; (with_reducible repeat (first | refine z11q ?_ _ | refine z10q ?_ | refine z4q ?_ _)); refine z18q ?_ NB495_582.out _; (with_reducible repeat (first | refine z11q ?_ _ | refine z10q ?_ | refine z4q ?_ _)); refine z18q ?_ NB495_582.out _; (with_reducible repeat (first | refine z11q ?_ _ | refine z10q ?_ | refine z4q ?_ _)); refine z18q ?_ NB495_582.out _; (with_reducible repeat (first | refine z11q ?_ _ | refine z10q ?_ | refine z4q ?_ _)); refine z18q ?_ NB495_582.out _; (with_reducible repeat (first | refine z11q ?_ _ | refine z10q ?_ | refine z4q ?_ _)); refine z18q ?_ NB495_582.out _; (with_reducible repeat (first | refine z11q ?_ _ | refine z10q ?_ | refine z4q ?_ _)); refine z18q ?_ NB495_582.out _; (with_reducible repeat (first | refine z11q ?_ _ | refine z10q ?_ | refine z4q ?_ _)); refine z18q ?_ NB495_582.out _; (with_reducible repeat (first | refine z11q ?_ _ | refine z10q ?_ | refine z4q ?_ _)); exact BK495.out⟩
             have n3_ : Aside0 (((((((((w183.setCell ⟨gb582, 0, none⟩ (.int .i64 t573)).setCell ⟨gb582, 1, none⟩ (.int .i64 t574)).setCell ⟨gb582, 2, none⟩ (.bool t575)).setCell ⟨gb582, 3, none⟩ (.bool t576)).setCell ⟨gb582, 4, none⟩ (.int .i64 t577)).setCell ⟨gb582, 5, none⟩ (.int .i64 t578)).setCell ⟨gb582, 6, none⟩ (.bool t579)).setCell ⟨gb582, 7, none⟩ (.bool t580)).heap[gb496]? = some (.cells #[.int .i64 t487, .int .i64 t488, .bool t489, .bool t490, .int .i64 t491, .int .i64 t492, .bool t493, .bool t494] 26 (0, 0))) := ⟨by (with_reducible repeat (first | refine z11q ?_ _ | refine z10q ?_ | refine z4q ?_ _)); refine z18q ?_ NB496_582.out _; (with_reducible repeat (first | refine z11q ?_ _ | refine z10q ?_ | refine z4q ?_ _)); refine z18q ?_ NB496_582.out _; (with_reducible repeat (first | refine z11q ?_ _ | refine z10q ?_ | refine z4q ?_ _)); refine z18q ?_ NB496_582.out _; (with_reducible repeat (first | refine z11q ?_ _ | refine z10q ?_ | refine z4q ?_ _)); refine z18q ?_ NB496_582.out _; (with_reducible repeat (first | refine z11q ?_ _ | refine z10q ?_ | refine z4q ?_ _)); refine z18q ?_ NB496_582.out _; (with_reducible repeat (first | refine z11q ?_ _ | refine z10q ?_ | refine z4q ?_ _)); refine z18q ?_ NB496_582.out _; (with_reducible repeat (first | refine z11q ?_ _ | refine z10q ?_ | refine z4q ?_ _)); refine z18q ?_ NB496_582.out _; (with_reducible repeat (first | refine z11q ?_ _ | refine z10q ?_ | refine z4q ?_ _)); refine z18q ?_ NB496_582.out _; (with_reducible repeat (first | refine z11q ?_ _ | refine z10q ?_ | refine z4q ?_ _)); exact BK496.out⟩
             have n4_ : Aside0 (((((((((w183.setCell ⟨gb582, 0, none⟩ (.int .i64 t573)).setCell ⟨gb582, 1, none⟩ (.int .i64 t574)).setCell ⟨gb582, 2, none⟩ (.bool t575)).setCell ⟨gb582, 3, none⟩ (.bool t576)).setCell ⟨gb582, 4, none⟩ (.int .i64 t577)).setCell ⟨gb582, 5, none⟩ (.int .i64 t578)).setCell ⟨gb582, 6, none⟩ (.bool t579)).setCell ⟨gb582, 7, none⟩ (.bool t580)).heap[gb506]? = some (.cells #[.int .i64 t497, .int .i64 t498, .bool t499, .bool t500, .int .i64 t501, .int .i64 t502, .bool t503, .bool t504] 26 (0, 0))) := ⟨by (with_reducible repeat (first | refine z11q ?_ _ | refine z10q ?_ | refine z4q ?_ _)); refine z18q ?_ NB506_582.out _; (with_reducible repeat (first | refine z11q ?_ _ | refine z10q ?_ | refine z4q ?_ _)); refine z18q ?_ NB506_582.out _; (with_reducible repeat (first | refine z11q ?_ _ | refine z10q ?_ | refine z4q ?_ _)); refine z18q ?_ NB506_582.out _; (with_reducible repeat (first | refine z11q ?_ _ | refine z10q ?_ | refine z4q ?_ _)); refine z18q ?_ NB506_582.out _; (with_reducible repeat (first | refine z11q ?_ _ | refine z10q ?_ | refine z4q ?_ _)); refine z18q ?_ NB506_582.out _; (with_reducible repeat (first | refine z11q ?_ _ | refine z10q ?_ | refine z4q ?_ _)); refine z18q ?_ NB506_582.out _; (with_reducible repeat (first | refine z11q ?_ _ | refine z10q ?_ | refine z4q ?_ _)); refine z18q ?_ NB506_582.out _; (with_reducible repeat (first | refine z11q ?_ _ | refine z10q ?_ | refine z4q ?_ _)); refine z18q ?_ NB506_582.out _; (with_reducible repeat (first | refine z11q ?_ _ | refine z10q ?_ | refine z4q ?_ _)); exact BK506.out⟩
             have n5_ : Aside0 (((((((((w183.setCell ⟨gb582, 0, none⟩ (.int .i64 t573)).setCell ⟨gb582, 1, none⟩ (.int .i64 t574)).setCell ⟨gb582, 2, none⟩ (.bool t575)).setCell ⟨gb582, 3, none⟩ (.bool t576)).setCell ⟨gb582, 4, none⟩ (.int .i64 t577)).setCell ⟨gb582, 5, none⟩ (.int .i64 t578)).setCell ⟨gb582, 6, none⟩ (.bool t579)).setCell ⟨gb582, 7, none⟩ (.bool t580)).heap[gb562]? = some (.cells #[.int .i64 t554, .int .i64 t555, .bool t556, .bool t557, .int .i64 t558, .int .i64 t559, .bool t560, .bool t561] 26 (0, 0))) := ⟨by (with_reducible repeat (first | refine z11q ?_ _ | refine z10q ?_ | refine z4q ?_ _)); refine z18q ?_ NB562_582.out _; (with_reducible repeat (first | refine z11q ?_ _ | refine z10q ?_ | refine z4q ?_ _)); refine z18q ?_ NB562_582.out _; (with_reducible repeat (first | refine z11q ?_ _ | refine z10q ?_ | refine z4q ?_ _)); refine z18q ?_ NB562_582.out _; (with_reducible repeat (first | refine z11q ?_ _ | refine z10q ?_ | refine z4q ?_ _)); refine z18q ?_ NB562_582.out _; (with_reducible repeat (first | refine z11q ?_ _ | refine z10q ?_ | refine z4q ?_ _)); refine z18q ?_ NB562_582.out _; (with_reducible repeat (first | refine z11q ?_ _ | refine z10q ?_ | refine z4q ?_ _)); refine z18q ?_ NB562_582.out _; (with_reducible repeat (first | refine z11q ?_ _ | refine z10q ?_ | refine z4q ?_ _)); refine z18q ?_ NB562_582.out _; (with_reducible repeat (first | refine z11q ?_ _ | refine z10q ?_ | refine z4q ?_ _)); refine z18q ?_ NB562_582.out _; (with_reducible repeat (first | refine z11q ?_ _ | refine z10q ?_ | refine z4q ?_ _)); exact BK562.out⟩
             have n6_ : Aside0 (((((((((w183.setCell ⟨gb582, 0, none⟩ (.int .i64 t573)).setCell ⟨gb582, 1, none⟩ (.int .i64 t574)).setCell ⟨gb582, 2, none⟩ (.bool t575)).setCell ⟨gb582, 3, none⟩ (.bool t576)).setCell ⟨gb582, 4, none⟩ (.int .i64 t577)).setCell ⟨gb582, 5, none⟩ (.int .i64 t578)).setCell ⟨gb582, 6, none⟩ (.bool t579)).setCell ⟨gb582, 7, none⟩ (.bool t580)).heap[gb572]? = some (.cells #[.int .i64 t563, .int .i64 t564, .bool t565, .bool t566, .int .i64 t567, .int .i64 t568, .bool t569, .bool t570] 26 (0, 0))) := ⟨by (with_reducible repeat (first | refine z11q ?_ _ | refine z10q ?_ | refine z4q ?_ _)); refine z18q ?_ NB572_582.out _; (with_reducible repeat (first | refine z11q ?_ _ | refine z10q ?_ | refine z4q ?_ _)); refine z18q ?_ NB572_582.out _; (with_reducible repeat (first | refine z11q ?_ _ | refine z10q ?_ | refine z4q ?_ _)); refine z18q ?_ NB572_582.out _; (with_reducible repeat (first | refine z11q ?_ _ | refine z10q ?_ | refine z4q ?_ _)); refine z18q ?_ NB572_582.out _; (with_reducible repeat (first | refine z11q ?_ _ | refine z10q ?_ | refine z4q ?_ _)); refine z18q ?_ NB572_582.out _; (with_reducible repeat (first | refine z11q ?_ _ | refine z10q ?_ | refine z4q ?_ _)); refine z18q ?_ NB572_582.out _; (with_reducible repeat (first | refine z11q ?_ _ | refine z10q ?_ | refine z4q ?_ _)); refine z18q ?_ NB572_582.out _; (with_reducible repeat (first | refine z11q ?_ _ | refine z10q ?_ | refine z4q ?_ _)); refine z18q ?_ NB572_582.out _; (with_reducible repeat (first | refine z11q ?_ _ | refine z10q ?_ | refine z4q ?_ _)); exact BK572.out⟩
             have n7_ : Aside0 (((((((((w183.setCell ⟨gb582, 0, none⟩ (.int .i64 t573)).setCell ⟨gb582, 1, none⟩ (.int .i64 t574)).setCell ⟨gb582, 2, none⟩ (.bool t575)).setCell ⟨gb582, 3, none⟩ (.bool t576)).setCell ⟨gb582, 4, none⟩ (.int .i64 t577)).setCell ⟨gb582, 5, none⟩ (.int .i64 t578)).setCell ⟨gb582, 6, none⟩ (.bool t579)).setCell ⟨gb582, 7, none⟩ (.bool t580)).heap[gb582]? = some (.cells #[.int .i64 t573, .int .i64 t574, .bool t575, .bool t576, .int .i64 t577, .int .i64 t578, .bool t579, .bool t580] 26 (0, 0))) := ⟨by refine cz ?_; refine z6q (cs := #[.int .i64 t573, .int .i64 t574, .bool t575, .bool t576, .int .i64 t577, .int .i64 t578, .bool t579, .bool false]) ?_ 7 _ rfl; refine cz ?_; refine z6q (cs := #[.int .i64 t573, .int .i64 t574, .bool t575, .bool t576, .int .i64 t577, .int .i64 t578, .bool false, .bool false]) ?_ 6 _ rfl; refine cz ?_; refine z6q (cs := #[.int .i64 t573, .int .i64 t574, .bool t575, .bool t576, .int .i64 t577, .int .i64 0, .bool false, .bool false]) ?_ 5 _ rfl; refine cz ?_; refine z6q (cs := #[.int .i64 t573, .int .i64 t574, .bool t575, .bool t576, .int .i64 0, .int .i64 0, .bool false, .bool false]) ?_ 4 _ rfl; refine cz ?_; refine z6q (cs := #[.int .i64 t573, .int .i64 t574, .bool t575, .bool false, .int .i64 0, .int .i64 0, .bool false, .bool false]) ?_ 3 _ rfl; refine cz ?_; refine z6q (cs := #[.int .i64 t573, .int .i64 t574, .bool false, .bool false, .int .i64 0, .int .i64 0, .bool false, .bool false]) ?_ 2 _ rfl; refine cz ?_; refine z6q (cs := #[.int .i64 t573, .int .i64 0, .bool false, .bool false, .int .i64 0, .int .i64 0, .bool false, .bool false]) ?_ 1 _ rfl; refine cz ?_; refine z6q (cs := #[.int .i64 0, .int .i64 0, .bool false, .bool false, .int .i64 0, .int .i64 0, .bool false, .bool false]) ?_ 0 _ rfl; (with_reducible repeat (first | refine z11q ?_ _ | refine z10q ?_ | refine z4q ?_ _)); exact BK582.out⟩
             have n8_ : Aside0 (Below w.heap.size w ((((((((w183.setCell ⟨gb582, 0, none⟩ (.int .i64 t573)).setCell ⟨gb582, 1, none⟩ (.int .i64 t574)).setCell ⟨gb582, 2, none⟩ (.bool t575)).setCell ⟨gb582, 3, none⟩ (.bool t576)).setCell ⟨gb582, 4, none⟩ (.int .i64 t577)).setCell ⟨gb582, 5, none⟩ (.int .i64 t578)).setCell ⟨gb582, 6, none⟩ (.bool t579)).setCell ⟨gb582, 7, none⟩ (.bool t580))) := ⟨by repeat (first | (with_reducible first | exact HB.out | apply z7q | apply z5q | apply z12q | refine z3q ?_ GE495.out | refine z3q ?_ GE496.out | refine z3q ?_ GE506.out | refine z3q ?_ GE562.out | refine z3q ?_ GE572.out | refine z3q ?_ GE582.out) | exact HB.out)⟩
             (try clear HO_7)
             (try clear HO_70)
             (try clear BK495)
             (try clear BK496)
             (try clear BK506)
             (try clear BK562)
             (try clear BK572)
             (try clear BK582)
             (try clear HB)
             generalize ((((((((w183.setCell ⟨gb582, 0, none⟩ (.int .i64 t573)).setCell ⟨gb582, 1, none⟩ (.int .i64 t574)).setCell ⟨gb582, 2, none⟩ (.bool t575)).setCell ⟨gb582, 3, none⟩ (.bool t576)).setCell ⟨gb582, 4, none⟩ (.int .i64 t577)).setCell ⟨gb582, 5, none⟩ (.int .i64 t578)).setCell ⟨gb582, 6, none⟩ (.bool t579)).setCell ⟨gb582, 7, none⟩ (.bool t580)) = w190 at n0_ n1_ n2_ n3_ n4_ n5_ n6_ n7_ n8_ ⊢
             have HO_7 := n0_
             have HO_70 := n1_
             have BK495 := n2_
             have BK496 := n3_
             have BK506 := n4_
             have BK562 := n5_
             have BK572 := n6_
             have BK582 := n7_
             have HB := n8_
             clear n0_ n1_ n2_ n3_ n4_ n5_ n6_ n7_ n8_
             have n0_ := Aside0.mk (Kd.R_drew HO_7.out)
             have n1_ := Aside0.mk (Kd.R_drew HO_70.out)
             have n2_ := Aside0.mk (z10q BK495.out)
             have n3_ := Aside0.mk (z10q BK496.out)
             have n4_ := Aside0.mk (z10q BK506.out)
             have n5_ := Aside0.mk (z10q BK562.out)
             have n6_ := Aside0.mk (z10q BK572.out)
             have n7_ := Aside0.mk (z10q BK582.out)
             have n8_ := Aside0.mk (z12q HB.out)
             clear HO_7
             clear HO_70
             clear BK495
             clear BK496
             clear BK506
             clear BK562
             clear BK572
             clear BK582
             clear HB
             have HO_7 := n0_
             have HO_70 := n1_
             have BK495 := n2_
             have BK496 := n3_
             have BK506 := n4_
             have BK562 := n5_
             have BK572 := n6_
             have BK582 := n7_
             have HB := n8_
             clear n0_ n1_ n2_ n3_ n4_ n5_ n6_ n7_ n8_
             refine start_ (n := 25) (S := fun w' => w'.cell? ⟨gb495, 0, none⟩ = some (.int .i64 t479) ∧ w'.cell? ⟨gb495, 1, none⟩ = some (.int .i64 t480) ∧ w'.cell? ⟨gb495, 2, none⟩ = some (.bool t481) ∧ w'.cell? ⟨gb495, 3, none⟩ = some (.bool t482) ∧ w'.cell? ⟨gb495, 4, none⟩ = some (.int .i64 t483) ∧ w'.cell? ⟨gb495, 5, none⟩ = some (.int .i64 t484) ∧ w'.cell? ⟨gb495, 6, none⟩ = some (.bool t485) ∧ w'.cell? ⟨gb495, 7, none⟩ = some (.bool t486) ∧ w'.cell? ⟨gb572, 0, none⟩ = some (.int .i64 t563) ∧ w'.cell? ⟨gb572, 1, none⟩ = some (.int .i64 t564) ∧ w'.cell? ⟨gb572, 2, none⟩ = some (.bool t565) ∧ w'.cell? ⟨gb572, 3, none⟩ = some (.bool t566) ∧ w'.cell? ⟨gb572, 4, none⟩ = some (.int .i64 t567) ∧ w'.cell? ⟨gb572, 5, none⟩ = some (.int .i64 t568) ∧ w'.cell? ⟨gb572, 6, none⟩ = some (.bool t569) ∧ w'.cell? ⟨gb572, 7, none⟩ = some (.bool t570) ∧ w'.cell? ⟨gb582, 0, none⟩ = some (.int .i64 t573) ∧ w'.cell? ⟨gb582, 1, none⟩ = some (.int .i64 t574) ∧ w'.cell? ⟨gb582, 2, none⟩ = some (.bool t575) ∧ w'.cell? ⟨gb582, 3, none⟩ = some (.bool t576) ∧ w'.cell? ⟨gb582, 4, none⟩ = some (.int .i64 t577) ∧ w'.cell? ⟨gb582, 5, none⟩ = some (.int .i64 t578) ∧ w'.cell? ⟨gb582, 6, none⟩ = some (.bool t579) ∧ w'.cell? ⟨gb582, 7, none⟩ = some (.bool t580) ∧ w'.cell? ⟨gb496, 0, none⟩ = some (.int .i64 t487) ∧ w'.cell? ⟨gb496, 1, none⟩ = some (.int .i64 t488) ∧ w'.cell? ⟨gb496, 2, none⟩ = some (.bool t489) ∧ w'.cell? ⟨gb496, 3, none⟩ = some (.bool t490) ∧ w'.cell? ⟨gb496, 4, none⟩ = some (.int .i64 t491) ∧ w'.cell? ⟨gb496, 5, none⟩ = some (.int .i64 t492) ∧ w'.cell? ⟨gb496, 6, none⟩ = some (.bool t493) ∧ w'.cell? ⟨gb496, 7, none⟩ = some (.bool t494)) (ds := []) bt11_0 (by kernel_rfl) rfl rfl ⟨(z0q BK495.out 0).trans rfl, (z0q BK495.out 1).trans rfl, (z0q BK495.out 2).trans rfl, (z0q BK495.out 3).trans rfl, (z0q BK495.out 4).trans rfl, (z0q BK495.out 5).trans rfl, (z0q BK495.out 6).trans rfl, (z0q BK495.out 7).trans rfl, (z0q BK572.out 0).trans rfl, (z0q BK572.out 1).trans rfl, (z0q BK572.out 2).trans rfl, (z0q BK572.out 3).trans rfl, (z0q BK572.out 4).trans rfl, (z0q BK572.out 5).trans rfl, (z0q BK572.out 6).trans rfl, (z0q BK572.out 7).trans rfl, (z0q BK582.out 0).trans rfl, (z0q BK582.out 1).trans rfl, (z0q BK582.out 2).trans rfl, (z0q BK582.out 3).trans rfl, (z0q BK582.out 4).trans rfl, (z0q BK582.out 5).trans rfl, (z0q BK582.out 6).trans rfl, (z0q BK582.out 7).trans rfl, (z0q BK496.out 0).trans rfl, (z0q BK496.out 1).trans rfl, (z0q BK496.out 2).trans rfl, (z0q BK496.out 3).trans rfl, (z0q BK496.out 4).trans rfl, (z0q BK496.out 5).trans rfl, (z0q BK496.out 6).trans rfl, (z0q BK496.out 7).trans rfl⟩ (fun hHeld => ?_); refine with_tabW laws_FnAreas.tab31 laws_FnAreas.bits31 (fun HT_ HW_ => ?_)
             generalize w190.drew = w191 at HO_7 HO_70 BK495 BK496 BK506 BK562 BK572 BK582 HB hHeld ⊢
             refine pure_ (i := 0) (N := some 120) (v := ?_) (a' := ?_) bt11_1 rfl rfl (any_of HT_.out (by kernel_rfl)) (fun _ _ _ h => h) (Or.inl ⟨by rfl, ?_⟩) ?_ ?_
             rotate_left
             ·intro w'
              go_simp
              with_reducible rfl
             rotate_left
             ·simp only [Act.put, setIfInBounds_toArray, set_cons_zero, set_cons_succ, i64_w, i32_w]
              rfl
             refine take_ (i := 1) (N := some 121) (v := ?_) (a' := ?_) bt11_2 rfl rfl (take_ofW HT_.out HW_.out (by kernel_rfl)) (fun _ _ _ h => h) (Or.inl ⟨by rfl, ?_⟩) hHeld ?_ ?_
             rotate_left
             ·rintro w' ⟨s0, s1, s2, s3, s4, s5, s6, s7, s8, s9, s10, s11, s12, s13, s14, s15, s16, s17, s18, s19, s20, s21, s22, s23, s24, s25, s26, s27, s28, s29, s30, s31⟩
              go_simp
              with_reducible rfl
             rotate_left
             ·simp only [Act.put, setIfInBounds_toArray, set_cons_zero, set_cons_succ, i64_w, i32_w]
              rfl
             refine one_ (i := 2) (N := some 122) bt11_3 rfl rfl (one_of HT_.out (by kernel_rfl)) (by decide) (fun K hK => ?_)
             refine goes_ Try.func11 (by kernel_rfl) rfl #[.agg #[.int .i64 t479, .int .i64 t480, .bool t481, .bool t482, .int .i64 t483, .int .i64 t484, .bool t485, .bool t486]] (by rfl) rfl rfl (by (try simp only [map_toArray, map_cons, map_nil]); first | done | rfl | (simp only [length_drop, length_take]; rfl)) ?_
             with_reducible refine (spec_CellsIn.calls t479 t480 t481 t482 t483 t484 t485 t486 t583 _ A154.out).mono ?_
             rintro e w192 ⟨rfl, hb⟩
             refine ⟨_, rfl, ?_⟩
             have n0_ := Aside0.mk (Kd.R_below (ro HO_7.out) hb)
             have n1_ := Aside0.mk (Kd.R_below (ro HO_70.out) hb)
             have n2_ := Aside0.mk (z2q (cy BK495.out) hb)
             have n3_ := Aside0.mk (z2q (cy BK496.out) hb)
             have n4_ := Aside0.mk (z2q (cy BK506.out) hb)
             have n5_ := Aside0.mk (z2q (cy BK562.out) hb)
             have n6_ := Aside0.mk (z2q (cy BK572.out) hb)
             have n7_ := Aside0.mk (z2q (cy BK582.out) hb)
             have n8_ := Aside0.mk (z8q (ibh HB.out) hb)
             clear HO_7
             clear HO_70
             clear BK495
             clear BK496
             clear BK506
             clear BK562
             clear BK572
             clear BK582
             clear HB
             have HO_7 := n0_
             have HO_70 := n1_
             have BK495 := n2_
             have BK496 := n3_
             have BK506 := n4_
             have BK562 := n5_
             have BK572 := n6_
             have BK582 := n7_
             have HB := n8_
             clear n0_ n1_ n2_ n3_ n4_ n5_ n6_ n7_ n8_
             (try clear hb)
             (try clear hb2)
             (try clear hk)
             (try clear hi)
             refine hK.out _ _ ⟨(z0q BK495.out 0).trans rfl, (z0q BK495.out 1).trans rfl, (z0q BK495.out 2).trans rfl, (z0q BK495.out 3).trans rfl, (z0q BK495.out 4).trans rfl, (z0q BK495.out 5).trans rfl, (z0q BK495.out 6).trans rfl, (z0q BK495.out 7).trans rfl, (z0q BK572.out 0).trans rfl, (z0q BK572.out 1).trans rfl, (z0q BK572.out 2).trans rfl, (z0q BK572.out 3).trans rfl, (z0q BK572.out 4).trans rfl, (z0q BK572.out 5).trans rfl, (z0q BK572.out 6).trans rfl, (z0q BK572.out 7).trans rfl, (z0q BK582.out 0).trans rfl, (z0q BK582.out 1).trans rfl, (z0q BK582.out 2).trans rfl, (z0q BK582.out 3).trans rfl, (z0q BK582.out 4).trans rfl, (z0q BK582.out 5).trans rfl, (z0q BK582.out 6).trans rfl, (z0q BK582.out 7).trans rfl, (z0q BK496.out 0).trans rfl, (z0q BK496.out 1).trans rfl, (z0q BK496.out 2).trans rfl, (z0q BK496.out 3).trans rfl, (z0q BK496.out 4).trans rfl, (z0q BK496.out 5).trans rfl, (z0q BK496.out 6).trans rfl, (z0q BK496.out 7).trans rfl⟩ (fun hHeld => ?_)
             clear hK K
             refine norm_ (a' := ?_) ?_ ?_
             rotate_left
             ·show Act.put _ (some 122) _ = _
              simp only [Act.put, setIfInBounds_toArray, set_cons_zero, set_cons_succ, i64_w, i32_w]
              rfl
             refine pure_ (i := 3) (N := some 123) (v := ?_) (a' := ?_) bt11_4 rfl rfl (any_of HT_.out (by kernel_rfl)) (fun _ _ _ h => h) (Or.inl ⟨by rfl, ?_⟩) ?_ ?_
             rotate_left
             ·intro w'
              go_simp
              with_reducible rfl
             rotate_left
             ·simp only [Act.put, setIfInBounds_toArray, set_cons_zero, set_cons_succ, i64_w, i32_w]
              rfl
             refine pure_ (i := 4) (N := some 124) (v := ?_) (a' := ?_) bt11_5 rfl rfl (any_of HT_.out (by kernel_rfl)) (fun _ _ _ h => h) (Or.inl ⟨by rfl, ?_⟩) ?_ ?_
             rotate_left
             ·intro w'
              go_simp
              with_reducible rfl
             rotate_left
             ·simp only [Act.put, setIfInBounds_toArray, set_cons_zero, set_cons_succ, i64_w, i32_w]
              rfl
             refine pure_ (i := 5) (N := some 125) (v := ?_) (a' := ?_) bt11_6 rfl rfl (any_of HT_.out (by kernel_rfl)) (fun _ _ _ h => h) (Or.inl ⟨by rfl, ?_⟩) ?_ ?_
             rotate_left
             ·intro w'
              go_simp
              with_reducible rfl
             rotate_left
             ·simp only [Act.put, setIfInBounds_toArray, set_cons_zero, set_cons_succ, i64_w, i32_w]
              rfl
             refine pure_ (i := 6) (N := some 126) (v := ?_) (a' := ?_) bt11_7 rfl rfl (any_of HT_.out (by kernel_rfl)) (fun _ _ _ h => h) (Or.inl ⟨by rfl, ?_⟩) ?_ ?_
             rotate_left
             ·intro w'
              go_simp
              with_reducible rfl
             rotate_left
             ·simp only [Act.put, setIfInBounds_toArray, set_cons_zero, set_cons_succ, i64_w, i32_w]
              rfl
             refine pure_ (i := 7) (N := some 127) (v := ?_) (a' := ?_) bt11_8 rfl rfl (any_of HT_.out (by kernel_rfl)) (fun _ _ _ h => h) (Or.inl ⟨by rfl, ?_⟩) ?_ ?_
             rotate_left
             ·intro w'
              go_simp
              with_reducible rfl
             rotate_left
             ·simp only [Act.put, setIfInBounds_toArray, set_cons_zero, set_cons_succ, i64_w, i32_w]
              rfl
             refine take_ (i := 8) (N := some 128) (v := ?_) (a' := ?_) bt11_9 rfl rfl (take_ofW HT_.out HW_.out (by kernel_rfl)) (fun _ _ _ h => h) (Or.inl ⟨by rfl, ?_⟩) hHeld ?_ ?_
             rotate_left
             ·rintro w' ⟨s0, s1, s2, s3, s4, s5, s6, s7, s8, s9, s10, s11, s12, s13, s14, s15, s16, s17, s18, s19, s20, s21, s22, s23, s24, s25, s26, s27, s28, s29, s30, s31⟩
              go_simp
              with_reducible rfl
             rotate_left
             ·simp only [Act.put, setIfInBounds_toArray, set_cons_zero, set_cons_succ, i64_w, i32_w]
              rfl
             refine take_ (i := 9) (N := some 129) (v := ?_) (a' := ?_) bt11_10 rfl rfl (take_ofW HT_.out HW_.out (by kernel_rfl)) (fun _ _ _ h => h) (Or.inl ⟨by rfl, ?_⟩) hHeld ?_ ?_
             rotate_left
             ·rintro w' ⟨s0, s1, s2, s3, s4, s5, s6, s7, s8, s9, s10, s11, s12, s13, s14, s15, s16, s17, s18, s19, s20, s21, s22, s23, s24, s25, s26, s27, s28, s29, s30, s31⟩
              go_simp
              with_reducible rfl
             rotate_left
             ·simp only [Act.put, setIfInBounds_toArray, set_cons_zero, set_cons_succ, i64_w, i32_w]
              rfl
             refine take_ (i := 10) (N := some 130) (v := ?_) (a' := ?_) bt11_11 rfl rfl (take_ofW HT_.out HW_.out (by kernel_rfl)) (fun _ _ _ h => h) (Or.inl ⟨by rfl, ?_⟩) hHeld ?_ ?_
             rotate_left
             ·rintro w' ⟨s0, s1, s2, s3, s4, s5, s6, s7, s8, s9, s10, s11, s12, s13, s14, s15, s16, s17, s18, s19, s20, s21, s22, s23, s24, s25, s26, s27, s28, s29, s30, s31⟩
              go_simp
              with_reducible rfl
             rotate_left
             ·simp only [Act.put, setIfInBounds_toArray, set_cons_zero, set_cons_succ, i64_w, i32_w]
              rfl
             refine one_ (i := 11) (N := some 131) bt11_12 rfl rfl (one_of HT_.out (by kernel_rfl)) (by decide) (fun K hK => ?_)
             refine goes_ Try.func13 (by kernel_rfl) rfl #[.agg #[.int .i64 t479, .int .i64 t480, .bool t481, .bool t482, .int .i64 t483, .int .i64 t484, .bool t485, .bool t486], .agg #[.int .i64 t479, .int .i64 t480, .bool t481, .bool t482, .int .i64 t483, .int .i64 t484, .bool t485, .bool t486]] (by rfl) rfl rfl (by (try simp only [map_toArray, map_cons, map_nil]); first | done | rfl | (simp only [length_drop, length_take]; rfl)) ?_
             with_reducible refine (spec_Hull.calls k3 t479 t480 t481 t482 t483 t484 t485 t486 t479 t480 t481 t482 t483 t484 t485 t486 t584 t585 t586 t587 t588 t589 t590 t591 _ A157.out).mono ?_
             rintro e w193 ⟨rfl, hb⟩
             refine ⟨_, rfl, ?_⟩
             have n0_ := Aside0.mk (Kd.R_below (ro HO_7.out) hb)
             have n1_ := Aside0.mk (Kd.R_below (ro HO_70.out) hb)
             have n2_ := Aside0.mk (z2q (cy BK495.out) hb)
             have n3_ := Aside0.mk (z2q (cy BK496.out) hb)
             have n4_ := Aside0.mk (z2q (cy BK506.out) hb)
             have n5_ := Aside0.mk (z2q (cy BK562.out) hb)
             have n6_ := Aside0.mk (z2q (cy BK572.out) hb)
             have n7_ := Aside0.mk (z2q (cy BK582.out) hb)
             have n8_ := Aside0.mk (z8q (ibh HB.out) hb)
             clear HO_7
             clear HO_70
             clear BK495
             clear BK496
             clear BK506
             clear BK562
             clear BK572
             clear BK582
             clear HB
             have HO_7 := n0_
             have HO_70 := n1_
             have BK495 := n2_
             have BK496 := n3_
             have BK506 := n4_
             have BK562 := n5_
             have BK572 := n6_
             have BK582 := n7_
             have HB := n8_
             clear n0_ n1_ n2_ n3_ n4_ n5_ n6_ n7_ n8_
             (try clear hb)
             (try clear hb2)
             (try clear hk)
             (try clear hi)
             refine hK.out _ _ ⟨(z0q BK495.out 0).trans rfl, (z0q BK495.out 1).trans rfl, (z0q BK495.out 2).trans rfl, (z0q BK495.out 3).trans rfl, (z0q BK495.out 4).trans rfl, (z0q BK495.out 5).trans rfl, (z0q BK495.out 6).trans rfl, (z0q BK495.out 7).trans rfl, (z0q BK572.out 0).trans rfl, (z0q BK572.out 1).trans rfl, (z0q BK572.out 2).trans rfl, (z0q BK572.out 3).trans rfl, (z0q BK572.out 4).trans rfl, (z0q BK572.out 5).trans rfl, (z0q BK572.out 6).trans rfl, (z0q BK572.out 7).trans rfl, (z0q BK582.out 0).trans rfl, (z0q BK582.out 1).trans rfl, (z0q BK582.out 2).trans rfl, (z0q BK582.out 3).trans rfl, (z0q BK582.out 4).trans rfl, (z0q BK582.out 5).trans rfl, (z0q BK582.out 6).trans rfl, (z0q BK582.out 7).trans rfl, (z0q BK496.out 0).trans rfl, (z0q BK496.out 1).trans rfl, (z0q BK496.out 2).trans rfl, (z0q BK496.out 3).trans rfl, (z0q BK496.out 4).trans rfl, (z0q BK496.out 5).trans rfl, (z0q BK496.out 6).trans rfl, (z0q BK496.out 7).trans rfl⟩ (fun hHeld => ?_)
             clear hK K
             refine norm_ (a' := ?_) ?_ ?_
             rotate_left
             ·show Act.put _ (some 131) _ = _
              simp only [Act.put, setIfInBounds_toArray, set_cons_zero, set_cons_succ, i64_w, i32_w]
              rfl
             refine pure_ (i := 12) (N := some 132) (v := ?_) (a' := ?_) bt11_13 rfl rfl (any_of HT_.out (by kernel_rfl)) (fun _ _ _ h => h) (Or.inl ⟨by rfl, ?_⟩) ?_ ?_
             rotate_left
             ·intro w'
              go_simp
              with_reducible rfl
             rotate_left
             ·simp only [Act.put, setIfInBounds_toArray, set_cons_zero, set_cons_succ, i64_w, i32_w]
              rfl
             refine pure_ (i := 13) (N := some 133) (v := ?_) (a' := ?_) bt11_14 rfl rfl (any_of HT_.out (by kernel_rfl)) (fun _ _ _ h => h) (Or.inl ⟨by rfl, ?_⟩) ?_ ?_
             rotate_left
             ·intro w'
              go_simp
              with_reducible rfl
             rotate_left
             ·simp only [Act.put, setIfInBounds_toArray, set_cons_zero, set_cons_succ, i64_w, i32_w]
              rfl
             refine pure_ (i := 14) (N := some 134) (v := ?_) (a' := ?_) bt11_15 rfl rfl (any_of HT_.out (by kernel_rfl)) (fun _ _ _ h => h) (Or.inl ⟨by rfl, ?_⟩) ?_ ?_
             rotate_left
             ·intro w'
              go_simp
              with_reducible rfl
             rotate_left
             ·simp only [Act.put, setIfInBounds_toArray, set_cons_zero, set_cons_succ, i64_w, i32_w]
              rfl
             refine pure_ (i := 15) (N := some 135) (v := ?_) (a' := ?_) bt11_16 rfl rfl (any_of HT_.out (by kernel_rfl)) (fun _ _ _ h => h) (Or.inl ⟨by rfl, ?_⟩) ?_ ?_
             rotate_left
             ·intro w'
              go_simp
              with_reducible rfl
             rotate_left
             ·simp only [Act.put, setIfInBounds_toArray, set_cons_zero, set_cons_succ, i64_w, i32_w]
              rfl
             refine pure_ (i := 16) (N := some 136) (v := ?_) (a' := ?_) bt11_17 rfl rfl (any_of HT_.out (by kernel_rfl)) (fun _ _ _ h => h) (Or.inl ⟨by rfl, ?_⟩) ?_ ?_
             rotate_left
             ·intro w'
              go_simp
              with_reducible rfl
             rotate_left
             ·simp only [Act.put, setIfInBounds_toArray, set_cons_zero, set_cons_succ, i64_w, i32_w]
              rfl
             refine pure_ (i := 17) (N := some 137) (v := ?_) (a' := ?_) bt11_18 rfl rfl (any_of HT_.out (by kernel_rfl)) (fun _ _ _ h => h) (Or.inl ⟨by rfl, ?_⟩) ?_ ?_
             rotate_left
             ·intro w'
              go_simp
              with_reducible rfl
             rotate_left
             ·simp only [Act.put, setIfInBounds_toArray, set_cons_zero, set_cons_succ, i64_w, i32_w]
              rfl
             refine take_ (i := 18) (N := some 138) (v := ?_) (a' := ?_) bt11_19 rfl rfl (take_ofW HT_.out HW_.out (by kernel_rfl)) (fun _ _ _ h => h) (Or.inl ⟨by rfl, ?_⟩) hHeld ?_ ?_
             rotate_left
             ·rintro w' ⟨s0, s1, s2, s3, s4, s5, s6, s7, s8, s9, s10, s11, s12, s13, s14, s15, s16, s17, s18, s19, s20, s21, s22, s23, s24, s25, s26, s27, s28, s29, s30, s31⟩
              go_simp
              with_reducible rfl
             rotate_left
             ·simp only [Act.put, setIfInBounds_toArray, set_cons_zero, set_cons_succ, i64_w, i32_w]
              rfl
             refine take_ (i := 19) (N := some 139) (v := ?_) (a' := ?_) bt11_20 rfl rfl (take_ofW HT_.out HW_.out (by kernel_rfl)) (fun _ _ _ h => h) (Or.inl ⟨by rfl, ?_⟩) hHeld ?_ ?_
             rotate_left
             ·rintro w' ⟨s0, s1, s2, s3, s4, s5, s6, s7, s8, s9, s10, s11, s12, s13, s14, s15, s16, s17, s18, s19, s20, s21, s22, s23, s24, s25, s26, s27, s28, s29, s30, s31⟩
              go_simp
              with_reducible rfl
             rotate_left
             ·simp only [Act.put, setIfInBounds_toArray, set_cons_zero, set_cons_succ, i64_w, i32_w]
              rfl
             refine take_ (i := 20) (N := some 140) (v := ?_) (a' := ?_) bt11_21 rfl rfl (take_ofW HT_.out HW_.out (by kernel_rfl)) (fun _ _ _ h => h) (Or.inl ⟨by rfl, ?_⟩) hHeld ?_ ?_
             rotate_left
             ·rintro w' ⟨s0, s1, s2, s3, s4, s5, s6, s7, s8, s9, s10, s11, s12, s13, s14, s15, s16, s17, s18, s19, s20, s21, s22, s23, s24, s25, s26, s27, s28, s29, s30, s31⟩
              go_simp
              with_reducible rfl
             rotate_left
             ·simp only [Act.put, setIfInBounds_toArray, set_cons_zero, set_cons_succ, i64_w, i32_w]
              rfl
             refine one_ (i := 21) (N := some 141) bt11_22 rfl rfl (one_of HT_.out (by kernel_rfl)) (by decide) (fun K hK => ?_)
             refine goes_ Try.func13 (by kernel_rfl) rfl #[.agg #[.int .i64 t487, .int .i64 t488, .bool t489, .bool t490, .int .i64 t491, .int .i64 t492, .bool t493, .bool t494], .agg #[.int .i64 t487, .int .i64 t488, .bool t489, .bool t490, .int .i64 t491, .int .i64 t492, .bool t493, .bool t494]] (by rfl) rfl rfl (by (try simp only [map_toArray, map_cons, map_nil]); first | done | rfl | (simp only [length_drop, length_take]; rfl)) ?_
             with_reducible refine (spec_Hull.calls k3 t487 t488 t489 t490 t491 t492 t493 t494 t487 t488 t489 t490 t491 t492 t493 t494 t592 t593 t594 t595 t596 t597 t598 t599 _ A160.out).mono ?_
             rintro e w194 ⟨rfl, hb⟩
             refine ⟨_, rfl, ?_⟩
             have n0_ := Aside0.mk (Kd.R_below (ro HO_7.out) hb)
             have n1_ := Aside0.mk (Kd.R_below (ro HO_70.out) hb)
             have n2_ := Aside0.mk (z2q (cy BK495.out) hb)
             have n3_ := Aside0.mk (z2q (cy BK496.out) hb)
             have n4_ := Aside0.mk (z2q (cy BK506.out) hb)
             have n5_ := Aside0.mk (z2q (cy BK562.out) hb)
             have n6_ := Aside0.mk (z2q (cy BK572.out) hb)
             have n7_ := Aside0.mk (z2q (cy BK582.out) hb)
             have n8_ := Aside0.mk (z8q (ibh HB.out) hb)
             clear HO_7
             clear HO_70
             clear BK495
             clear BK496
             clear BK506
             clear BK562
             clear BK572
             clear BK582
             clear HB
             have HO_7 := n0_
             have HO_70 := n1_
             have BK495 := n2_
             have BK496 := n3_
             have BK506 := n4_
             have BK562 := n5_
             have BK572 := n6_
             have BK582 := n7_
             have HB := n8_
             clear n0_ n1_ n2_ n3_ n4_ n5_ n6_ n7_ n8_
             (try clear hb)
             (try clear hb2)
             (try clear hk)
             (try clear hi)
             refine hK.out _ _ ⟨(z0q BK495.out 0).trans rfl, (z0q BK495.out 1).trans rfl, (z0q BK495.out 2).trans rfl, (z0q BK495.out 3).trans rfl, (z0q BK495.out 4).trans rfl, (z0q BK495.out 5).trans rfl, (z0q BK495.out 6).trans rfl, (z0q BK495.out 7).trans rfl, (z0q BK572.out 0).trans rfl, (z0q BK572.out 1).trans rfl, (z0q BK572.out 2).trans rfl, (z0q BK572.out 3).trans rfl, (z0q BK572.out 4).trans rfl, (z0q BK572.out 5).trans rfl, (z0q BK572.out 6).trans rfl, (z0q BK572.out 7).trans rfl, (z0q BK582.out 0).trans rfl, (z0q BK582.out 1).trans rfl, (z0q BK582.out 2).trans rfl, (z0q BK582.out 3).trans rfl, (z0q BK582.out 4).trans rfl, (z0q BK582.out 5).trans rfl, (z0q BK582.out 6).trans rfl, (z0q BK582.out 7).trans rfl, (z0q BK496.out 0).trans rfl, (z0q BK496.out 1).trans rfl, (z0q BK496.out 2).trans rfl, (z0q BK496.out 3).trans rfl, (z0q BK496.out 4).trans rfl, (z0q BK496.out 5).trans rfl, (z0q BK496.out 6).trans rfl, (z0q BK496.out 7).trans rfl⟩ (fun hHeld => ?_)
             clear hK K
             refine norm_ (a' := ?_) ?_ ?_
             rotate_left
             ·show Act.put _ (some 141) _ = _
              simp only [Act.put, setIfInBounds_toArray, set_cons_zero, set_cons_succ, i64_w, i32_w]
              rfl
             refine pure_ (i := 22) (N := some 142) (v := ?_) (a' := ?_) bt11_23 rfl rfl (any_of HT_.out (by kernel_rfl)) (fun _ _ _ h => h) (Or.inl ⟨by rfl, ?_⟩) ?_ ?_
             rotate_left
             ·intro w'
              go_simp
              with_reducible rfl
             rotate_left
             ·simp only [Act.put, setIfInBounds_toArray, set_cons_zero, set_cons_succ, i64_w, i32_w]
              rfl
             refine pure_ (i := 23) (N := some 143) (v := ?_) (a' := ?_) bt11_24 rfl rfl (any_of HT_.out (by kernel_rfl)) (fun _ _ _ h => h) (Or.inl ⟨by rfl, ?_⟩) ?_ ?_
             rotate_left
             ·intro w'
              go_simp
              with_reducible rfl
             rotate_left
             ·simp only [Act.put, setIfInBounds_toArray, set_cons_zero, set_cons_succ, i64_w, i32_w]
              rfl
             refine pure_ (i := 24) (N := some 2) (v := ?_) (a' := ?_) bt11_25 rfl rfl (any_of HT_.out (by kernel_rfl)) (fun _ _ _ h => h) (Or.inl ⟨by rfl, ?_⟩) ?_ ?_
             rotate_left
             ·intro w'
              go_simp
              with_reducible rfl
             rotate_left
             ·simp only [Act.put, setIfInBounds_toArray, set_cons_zero, set_cons_succ, i64_w, i32_w]
              rfl
             refine done_ (done_of HT_.out (by kernel_rfl)) ?_
             try go_wp2
             go_ret
             exact ⟨by first | rfl | (simp [errW_none, errW_some] <;> rfl) | (simp [*, errW_none, errW_some] <;> rfl), by repeat (first | (with_reducible first | exact HB.out | apply z7q | apply z5q | apply z12q | refine z3q ?_ GE495.out | refine z3q ?_ GE496.out | refine z3q ?_ GE506.out | refine z3q ?_ GE562.out | refine z3q ?_ GE572.out | refine z3q ?_ GE582.out) | exact HB.out)⟩
            ·replace c159 := Bool.eq_false_iff.mpr c159
             subst c159
             have H1 : (some false) = some r := by rw [if_neg (show ¬ (false = true) by decide)] at H; exact H
             clear H
             have H := H1
             clear H1
             exact absurd ((Option.some.inj H).trans hr) (by decide)
           ·rw [if_neg c158] at H
            have c158b0 : ((t563 == t584 && (t564 == t585 && (t565 == t586 && (t566 == t587)))) && ((t567 == t588 && (t568 == t589 && (t569 == t590 && (t570 == t591)))))) = false := by simpa using c158
            clear c158
            exact absurd ((Option.some.inj H).trans hr) (by decide)
          ·replace c156 := Bool.eq_false_iff.mpr c156
           subst c156
           have H1 : (some false) = some r := by rw [if_neg (show ¬ (false = true) by decide)] at H; exact H
           clear H
           have H := H1
           clear H1
           exact absurd ((Option.some.inj H).trans hr) (by decide)
         ·rw [if_neg c155] at H
          have c155b0 : (x8_3 == t583) = false := beq_eq_false_iff_ne.mpr c155
          have c155b1 : (x8_3 != t583) = true := bne_iff_ne.mpr c155
          exact absurd ((Option.some.inj H).trans hr) (by decide)

end Go.Proofs.Ytjjignjjnnmajaa.PFnAreas
