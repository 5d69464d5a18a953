/- Functions of the program as Lean functions, and proofs that the Go code comes to their answers: for the law FnDays; made out of the print by a program of mine (compact.py). No conditions but each theorem's own. -/
import Derived.Test.YtffamggcjijobaaDoorMFnDaysa0
import Derived.Test.YtffamggcjijobaaDoorMFnDaysa1
import Derived.Test.YtffamggcjijobaaDoorMFnDaysa7
import Derived.Test.YtffamggcjijobaaDoorMFnDaysa10
namespace Go.Proofs.YtffamggcjijobaaDoor.PFnDays
open List (map_toArray map_cons map_nil length_drop length_take set_cons_zero set_cons_succ setIfInBounds_toArray)
open Go.RowKit Go.Proofs.YtffamggcjijobaaDoorW.PrintWords Go.Proofs.YtffamggcjijobaaDoorW.PrintLast Go.Proofs.YtffamggcjijobaaDoorW.PrintMore
attribute [local go_sem] max2_int min2_int max_two min_two max_three min_three max_four min_four   -- for this text's walks alone
set_option linter.unusedVariables false
set_option linter.unusedSimpArgs false

attribute [local go_sem high] eqA36
abbrev bt11_0 : Array Bool := #[false, false, false, false, false, false, false, false, false, false]
abbrev bt11_1 : Array Bool := #[true, false, false, false, false, false, false, false, false, false]
abbrev bt11_2 : Array Bool := #[true, false, true, false, false, false, false, false, false, false]
abbrev bt11_3 : Array Bool := #[true, false, true, false, false, true, false, false, false, false]
abbrev bt11_4 : Array Bool := #[true, false, true, false, false, true, true, false, false, false]
abbrev bt11_5 : Array Bool := #[true, true, true, true, true, true, true, true, true, false]
abbrev bt11_6 : Array Bool := #[true, true, true, false, false, true, true, false, false, false]
abbrev bt11_7 : Array Bool := #[true, false, true, false, false, true, true, false, true, false]
abbrev bt11_8 : Array Bool := #[true, true, true, true, false, true, true, false, false, false]
abbrev bt11_9 : Array Bool := #[true, true, true, false, false, true, true, false, true, false]
abbrev bt11_10 : Array Bool := #[true, true, true, true, true, true, true, false, false, false]
abbrev bt11_11 : Array Bool := #[true, true, true, true, true, true, true, true, false, false]
abbrev bt11_12 : Array Bool := #[true, true, true, true, false, true, true, false, true, false]
abbrev bt11_13 : Array Bool := #[true, true, true, true, true, true, true, false, true, false]
abbrev bt11_14 : Array Bool := #[true, true, true, true, true, true, true, true, true, true]
set_option maxHeartbeats 8000000 in
set_option maxRecDepth 100000 in
theorem spec_AddMonths.calls_p1 (k : Nat) (a0 : Int) (a1_0 : Int) (a1_1 : Int) (a1_2 : Int) (a2 : Int) (r1 : Int) (r2 : Int) (r3 : Int) (w : World) (t355 : _) (t356 : _) (A4 : Aside0 ((spec_l2DayOf.f k a0 a1_0 a1_1 a1_2) = some (t355, t356))) (H : (if t356 = true then (if a2 < (-100000) then (spec_AddMonths.j0 k a0 a2 true a1_0 a1_1 a1_2) else (spec_AddMonths.j0 k a0 a2 (decide (a2 > 100000)) a1_0 a1_1 a1_2)) else (spec_AddMonths.j0 k a0 a2 true a1_0 a1_1 a1_2)) = some (r1, r2, r3)) :
  Calls Tryd.prog 29 #[.int .i64 a0, .agg #[.int .i64 a1_0, .int .i64 a1_1, .int .i64 a1_2], .int .i64 a2] w fun e w' => e = .returned (.agg #[.int .i64 r1, .int .i64 r2, .int .i64 r3]) ∧ Below w.heap.size w w' := by
 have hu36 := Tryd.underlying36
 have HB := Aside0.mk (Below.refl w.heap.size w)
 have HC5 := Aside0.mk H
 clear H
 go_enter Tryd.func29, Tryd.ntmps29
 go_upto_region 2 with (first | ((with_reducible refine z22q (N := 4) rfl ?_); refine z20q ?hg (N := 4) ?hd (cs := #[.int .i64 a1_0, .int .i64 a1_1, .int .i64 a1_2]) (t := 36) ?hr ?_; (case hd => rfl); (case hg => rfl); (case hr => first | (go_simp; done) | (go_simp; rfl)); intro gb353 hg w6 hbox hb; have n0_ := Aside0.mk (z11q (by repeat (first | (with_reducible first | exact HB.out | apply z2q | apply z0q | apply z1q) | exact HB.out)) hb); have n1_ := Aside0.mk (hbox); have n2_ := Aside0.mk ((by rw [hg]; exact (z12q (by repeat (first | (with_reducible first | exact HB.out | apply z2q | apply z0q | apply z1q) | exact HB.out))) : w.heap.size ≤ gb353)); have n3_ := Aside0.mk ((by rw [hg]; exact (z12q (by repeat (first | (with_reducible first | exact HB.out | apply z2q | apply z0q | apply z1q) | exact HB.out))) : w.heap.size ≤ gb353)); clear HB; have HB := n0_; have BK353 := n1_; have GW353 := n2_; have GE353 := n3_; clear n0_ n1_ n2_ n3_; clear hb hbox hg) | ((with_reducible refine z22q (N := 6) rfl ?_); refine z20q ?hg (N := 6) ?hd (cs := #[.int .i64 0, .int .i64 0, .int .i64 0]) (t := 36) ?hr ?_; (case hd => rfl); (case hg => rfl); (case hr => first | (go_simp; done) | (go_simp; rfl)); intro gb354 hg w7 hbox hb; have n0_ := Aside0.mk (z13q (g := gb353) (o := .cells #[.int .i64 a1_0, .int .i64 a1_1, .int .i64 a1_2] 36 (0, 0)) (by (with_reducible repeat (first | refine z4q ?_ _ | refine z6q ?_ | refine z5q ?_ _)); exact BK353.out) hb); have n1_ := Aside0.mk (z11q (by repeat (first | (with_reducible first | exact HB.out | apply z2q | apply z0q | apply z1q | refine z3q ?_ GE353.out) | exact HB.out)) hb); have n2_ := Aside0.mk (hbox); have n3_ := Aside0.mk ((by rw [hg]; exact (z12q (by repeat (first | (with_reducible first | exact HB.out | apply z2q | apply z0q | apply z1q | refine z3q ?_ GE353.out) | exact HB.out))) : w.heap.size ≤ gb354)); have n4_ := Aside0.mk ((by rw [hg]; exact (z12q (by repeat (first | (with_reducible first | exact HB.out | apply z2q | apply z0q | apply z1q | refine z3q ?_ GE353.out) | exact HB.out))) : w.heap.size ≤ gb354)); have n5_ := Aside0.mk ((by rw [hg]; exact Nat.ne_of_lt (z21q (g := gb353) (o := .cells #[.int .i64 a1_0, .int .i64 a1_1, .int .i64 a1_2] 36 (0, 0)) (by (with_reducible repeat (first | refine z4q ?_ _ | refine z6q ?_ | refine z5q ?_ _)); exact BK353.out)) : gb353 ≠ gb354)); have n6_ := Aside0.mk ((by rw [hg]; exact Nat.ne_of_gt (z21q (g := gb353) (o := .cells #[.int .i64 a1_0, .int .i64 a1_1, .int .i64 a1_2] 36 (0, 0)) (by (with_reducible repeat (first | refine z4q ?_ _ | refine z6q ?_ | refine z5q ?_ _)); exact BK353.out)) : gb354 ≠ gb353)); clear BK353; clear HB; have BK353 := n0_; have HB := n1_; have BK354 := n2_; have GW354 := n3_; have GE354 := n4_; have NB353_354 := n5_; have NB354_353 := n6_; clear n0_ n1_ n2_ n3_ n4_ n5_ n6_; clear hb hbox hg; have hnb8 := NB353_354.out; have hnc8 := NB354_353.out; have hcz9_0 : w7.cell? ⟨gb353, 0, none⟩ = some (.int .i64 a1_0) := (z7q BK353.out 0).trans rfl; have hcz9_1 : w7.cell? ⟨gb353, 1, none⟩ = some (.int .i64 a1_1) := (z7q BK353.out 1).trans rfl; have hcz9_2 : w7.cell? ⟨gb353, 2, none⟩ = some (.int .i64 a1_2) := (z7q BK353.out 2).trans rfl; have hfz9_0 := z8q BK353.out 0; have hfz9_1 := z8q BK353.out 1; have hfz9_2 := z8q BK353.out 2) | ((with_reducible refine z9q (f := 74) rfl ?_); refine z17q (some 15) rfl rfl Tryd.func74 (by kernel_rfl) rfl #[.int .i64 a0, .agg #[.int .i64 a1_0, .int .i64 a1_1, .int .i64 a1_2]] rfl (by (try simp only [map_toArray, map_cons, map_nil]); first | done | rfl | (simp only [length_drop, length_take]; rfl)) ?_; (with_reducible refine (spec_l2DayOf.calls k a0 a1_0 a1_1 a1_2 t355 t356 _ A4.out).mono ?_); rintro e w10 ⟨rfl, hb⟩; refine ⟨_, rfl, ?_⟩; have n0_ := Aside0.mk (z13q (g := gb353) (o := .cells #[.int .i64 a1_0, .int .i64 a1_1, .int .i64 a1_2] 36 (0, 0)) (by (with_reducible repeat (first | refine z4q ?_ _ | refine z6q ?_ | refine z5q ?_ _)); exact BK353.out) hb); have n1_ := Aside0.mk (z13q (g := gb354) (o := .cells #[.int .i64 0, .int .i64 0, .int .i64 0] 36 (0, 0)) (by (with_reducible repeat (first | refine z4q ?_ _ | refine z6q ?_ | refine z5q ?_ _)); exact BK354.out) hb); have n2_ := Aside0.mk (z11q (by repeat (first | (with_reducible first | exact HB.out | apply z2q | apply z0q | apply z1q | refine z3q ?_ GE353.out | refine z3q ?_ GE354.out) | exact HB.out)) hb); clear BK353; clear BK354; clear HB; have BK353 := n0_; have BK354 := n1_; have HB := n2_; clear n0_ n1_ n2_; (try clear hb); (try clear hb2); (try clear hk); (try clear hi)))
 (try simp only [Act.put, setIfInBounds_toArray, set_cons_zero, set_cons_succ])
 go_cut [27] (fun v27 wc => ∃ (kq : Nat) (x27_4 : Bool), v27 = .bool x27_4 ∧ Aside0 (spec_AddMonths.j0 kq a0 a2 x27_4 a1_0 a1_1 a1_2 = some (r1, r2, r3)) ∧ Aside0 (kq ≤ k) ∧ Aside0 (wc.heap[gb353]? = some (.cells #[.int .i64 a1_0, .int .i64 a1_1, .int .i64 a1_2] 36 (0, 0))) ∧ Aside0 (wc.heap[gb354]? = some (.cells #[.int .i64 0, .int .i64 0, .int .i64 0] 36 (0, 0))) ∧ Aside0 (Below w.heap.size w wc))
 case first =>
  have H := HC5.out
  clear HC5
  by_cases c11 : t356 = true
  ·subst c11
   have H1 : (if a2 < (-100000) then (spec_AddMonths.j0 k a0 a2 true a1_0 a1_1 a1_2) else (spec_AddMonths.j0 k a0 a2 (decide (a2 > 100000)) a1_0 a1_1 a1_2)) = some (r1, r2, r3) := by rw [if_pos rfl] at H; exact H
   clear H
   have H := H1
   clear H1
   by_cases c12 : a2 < (-100000)
   ·rw [if_pos c12] at H
    have c12b0 : decide (a2 < (-100000)) = true := decide_eq_true c12
    clear c12
    (first | rw [c12b0] | (simp only [i64_w, i32_w]; rw [c12b0]) | skip)
    have H' := Aside0.mk H
    clear H
    go_wp2
    go_meet
    case rel => exact ⟨_, (true), (by first | rfl | (simp; done) | (simp [*]; done) | (simp; unfold wrap64; omega)), H', ⟨by first | omega | exact Nat.le_refl _⟩, ⟨by (with_reducible repeat (first | refine z4q ?_ _ | refine z6q ?_ | refine z5q ?_ _)); exact BK353.out⟩, ⟨by (with_reducible repeat (first | refine z4q ?_ _ | refine z6q ?_ | refine z5q ?_ _)); exact BK354.out⟩, ⟨by repeat (first | (with_reducible first | exact HB.out | apply z2q | apply z0q | apply z1q | refine z3q ?_ GE353.out | refine z3q ?_ GE354.out) | exact HB.out)⟩⟩
   ·rw [if_neg c12] at H
    have c12b0 : decide (a2 < (-100000)) = false := decide_eq_false c12
    clear c12
    (first | rw [c12b0] | (simp only [i64_w, i32_w]; rw [c12b0]) | skip)
    have H' := Aside0.mk H
    clear H
    go_wp2
    go_meet
    case rel => exact ⟨_, (decide (a2 > 100000)), (by first | rfl | (simp; done) | (simp [*]; done) | (simp; unfold wrap64; omega)), H', ⟨by first | omega | exact Nat.le_refl _⟩, ⟨by (with_reducible repeat (first | refine z4q ?_ _ | refine z6q ?_ | refine z5q ?_ _)); exact BK353.out⟩, ⟨by (with_reducible repeat (first | refine z4q ?_ _ | refine z6q ?_ | refine z5q ?_ _)); exact BK354.out⟩, ⟨by repeat (first | (with_reducible first | exact HB.out | apply z2q | apply z0q | apply z1q | refine z3q ?_ GE353.out | refine z3q ?_ GE354.out) | exact HB.out)⟩⟩
  ·replace c11 := Bool.eq_false_iff.mpr c11
   subst c11
   have H1 : (spec_AddMonths.j0 k a0 a2 true a1_0 a1_1 a1_2) = some (r1, r2, r3) := by rw [if_neg (show ¬ (false = true) by decide)] at H; exact H
   clear H
   have H := H1
   clear H1
   have H' := Aside0.mk H
   clear H
   go_wp2
   go_meet
   case rel => exact ⟨_, (true), (by first | rfl | (simp; done) | (simp [*]; done) | (simp; unfold wrap64; omega)), H', ⟨by first | omega | exact Nat.le_refl _⟩, ⟨by (with_reducible repeat (first | refine z4q ?_ _ | refine z6q ?_ | refine z5q ?_ _)); exact BK353.out⟩, ⟨by (with_reducible repeat (first | refine z4q ?_ _ | refine z6q ?_ | refine z5q ?_ _)); exact BK354.out⟩, ⟨by repeat (first | (with_reducible first | exact HB.out | apply z2q | apply z0q | apply z1q | refine z3q ?_ GE353.out | refine z3q ?_ GE354.out) | exact HB.out)⟩⟩
 case rest =>
  clear HC5
  try clear c1
  try clear c2
  try clear p2
  try clear c7
  try clear c8
  try clear c11
  try clear c12
  try clear c12b0
  try clear hcz9_0
  try clear hcz9_1
  try clear hcz9_2
  try clear hfz9_0
  try clear hfz9_1
  try clear hfz9_2
  obtain ⟨kq, x27_4, rfl, HA, HJ4, BK353, BK354, HB⟩ := hcut
  cases kq with
  | zero => exact absurd HA.out (by simp [spec_AddMonths.j0])
  | succ kj4 =>
   have H := HA.out
   clear HA
   simp only [spec_AddMonths.j0] at H
   by_cases c13 : x27_4 = true
   ·subst c13
    have H1 : (some (0, 0, 0)) = some (r1, r2, r3) := by rw [if_pos rfl] at H; exact H
    clear H
    have H := H1
    clear H1
    simp only [Option.some.injEq, Prod.mk.injEq] at H
    obtain ⟨rfl, rfl, rfl⟩ := H
    have hnb14 := NB354_353.out
    have hnc14 := NB353_354.out
    have hcz15_0 : wc.cell? ⟨gb354, 0, none⟩ = some (.int .i64 0) := (z7q BK354.out 0).trans rfl
    have hcz15_1 : wc.cell? ⟨gb354, 1, none⟩ = some (.int .i64 0) := (z7q BK354.out 1).trans rfl
    have hcz15_2 : wc.cell? ⟨gb354, 2, none⟩ = some (.int .i64 0) := (z7q BK354.out 2).trans rfl
    have hfz15_0 := z8q BK354.out 0
    have hfz15_1 := z8q BK354.out 1
    have hfz15_2 := z8q BK354.out 2
    go_wp2
    refine bodyPost_ret (results_cell_row rfl _ _ gb354 36 #[.int .i64 0, .int .i64 0, .int .i64 0] (0, 0) _ rfl (by (with_reducible repeat (first | refine z4q ?_ _ | refine z6q ?_ | refine z5q ?_ _)); refine z14q (cs := #[.int .i64 0, .int .i64 0, .int .i64 0]) ?_ 2 _ rfl; (with_reducible repeat (first | refine z4q ?_ _ | refine z6q ?_ | refine z5q ?_ _)); refine z14q (cs := #[.int .i64 0, .int .i64 0, .int .i64 0]) ?_ 1 _ rfl; (with_reducible repeat (first | refine z4q ?_ _ | refine z6q ?_ | refine z5q ?_ _)); refine z14q (cs := #[.int .i64 0, .int .i64 0, .int .i64 0]) ?_ 0 _ rfl; (with_reducible repeat (first | refine z4q ?_ _ | refine z6q ?_ | refine z5q ?_ _)); exact BK354.out) Tryd.underlying36 rfl (by kernel_rfl)) rfl ?_
    exact ⟨by first | rfl | (simp [errW_none, errW_some] <;> rfl) | (simp [*, errW_none, errW_some] <;> rfl), by repeat (first | (with_reducible first | exact HB.out | apply z2q | apply z0q | apply z1q | refine z3q ?_ GE353.out | refine z3q ?_ GE354.out) | exact HB.out)⟩
   ·replace c13 := Bool.eq_false_iff.mpr c13
    subst c13
    have H1 : ((spec_l2Floor.f (wrap64 ((wrap64 ((wrap64 ((wrap64 (a1_0 * 12)) + a1_1)) - 1)) + a2)) 12).bind fun t357 => ((spec_l2Mod.f (wrap64 ((wrap64 ((wrap64 ((wrap64 (a1_0 * 12)) + a1_1)) - 1)) + a2)) 12).bind fun t358 => ((spec_l2Year.f t357).bind fun t360 => (if t360 = true then ((spec_l2MonthDays.f a0 t357 (wrap64 (1 + t358))).bind fun t361 => (if a1_2 > t361 then (some (t357, wrap64 (1 + t358), t361)) else (some (t357, wrap64 (1 + t358), a1_2)))) else (some (0, 0, 0)))))) = some (r1, r2, r3) := by rw [if_neg (show ¬ (false = true) by decide)] at H; exact H
    clear H
    have H := H1
    clear H1
    replace H := Option.bind_eq_some_iff.mp H
    obtain ⟨t357, A160, H⟩ := H
    replace H : ((spec_l2Mod.f (wrap64 ((wrap64 ((wrap64 ((wrap64 (a1_0 * 12)) + a1_1)) - 1)) + a2)) 12).bind fun t358 => ((spec_l2Year.f t357).bind fun t360 => (if t360 = true then ((spec_l2MonthDays.f a0 t357 (wrap64 (1 + t358))).bind fun t361 => (if a1_2 > t361 then (some (t357, wrap64 (1 + t358), t361)) else (some (t357, wrap64 (1 + t358), a1_2)))) else (some (0, 0, 0))))) = some (r1, r2, r3) := H
    have A16 := Aside0.mk A160
    clear A160
    replace H := Option.bind_eq_some_iff.mp H
    obtain ⟨t358, A170, H⟩ := H
    replace H : ((spec_l2Year.f t357).bind fun t360 => (if t360 = true then ((spec_l2MonthDays.f a0 t357 (wrap64 (1 + t358))).bind fun t361 => (if a1_2 > t361 then (some (t357, wrap64 (1 + t358), t361)) else (some (t357, wrap64 (1 + t358), a1_2)))) else (some (0, 0, 0)))) = some (r1, r2, r3) := H
    have A17 := Aside0.mk A170
    clear A170
    replace H := Option.bind_eq_some_iff.mp H
    obtain ⟨t360, A180, H⟩ := H
    replace H : (if t360 = true then ((spec_l2MonthDays.f a0 t357 (wrap64 (1 + t358))).bind fun t361 => (if a1_2 > t361 then (some (t357, wrap64 (1 + t358), t361)) else (some (t357, wrap64 (1 + t358), a1_2)))) else (some (0, 0, 0))) = some (r1, r2, r3) := H
    have A18 := Aside0.mk A180
    clear A180
    by_cases c19 : t360 = true
    ·subst c19
     have H1 : ((spec_l2MonthDays.f a0 t357 (wrap64 (1 + t358))).bind fun t361 => (if a1_2 > t361 then (some (t357, wrap64 (1 + t358), t361)) else (some (t357, wrap64 (1 + t358), a1_2)))) = some (r1, r2, r3) := by rw [if_pos rfl] at H; exact H
     clear H
     have H := H1
     clear H1
     replace H := Option.bind_eq_some_iff.mp H
     obtain ⟨t361, A200, H⟩ := H
     replace H : (if a1_2 > t361 then (some (t357, wrap64 (1 + t358), t361)) else (some (t357, wrap64 (1 + t358), a1_2))) = some (r1, r2, r3) := H
     have A20 := Aside0.mk A200
     clear A200
     by_cases c21 : a1_2 > t361
     ·rw [if_pos c21] at H
      have c21b0 : decide (t361 < a1_2) = true := decide_eq_true c21
      clear c21
      simp only [Option.some.injEq, Prod.mk.injEq] at H
      obtain ⟨rfl, rfl, rfl⟩ := H
      have hnb22 := NB353_354.out
      have hnc22 := NB354_353.out
      have hcz23_0 : wc.cell? ⟨gb353, 0, none⟩ = some (.int .i64 a1_0) := (z7q BK353.out 0).trans rfl
      have hcz23_1 : wc.cell? ⟨gb353, 1, none⟩ = some (.int .i64 a1_1) := (z7q BK353.out 1).trans rfl
      have hcz23_2 : wc.cell? ⟨gb353, 2, none⟩ = some (.int .i64 a1_2) := (z7q BK353.out 2).trans rfl
      have hfz23_0 := z8q BK353.out 0
      have hfz23_1 := z8q BK353.out 1
      have hfz23_2 := z8q BK353.out 2
      try go_wp2
      have n0_ := Aside0.mk (z6q BK353.out)
      have n1_ := Aside0.mk (z6q BK354.out)
      have n2_ := Aside0.mk (z1q HB.out)
      clear BK353
      clear BK354
      clear HB
      have BK353 := n0_
      have BK354 := n1_
      have HB := n2_
      clear n0_ n1_ n2_
      refine start_ (n := 10) (S := fun w' => w'.cell? ⟨gb353, 0, none⟩ = some (.int .i64 a1_0) ∧ w'.cell? ⟨gb353, 1, none⟩ = some (.int .i64 a1_1) ∧ w'.cell? ⟨gb353, 2, none⟩ = some (.int .i64 a1_2)) (ds := []) bt11_0 (by kernel_rfl) rfl rfl ⟨(z7q BK353.out 0).trans rfl, (z7q BK353.out 1).trans rfl, (z7q BK353.out 2).trans rfl⟩ (fun hHeld => ?_); refine with_tabW spec_AddMonths.tab5 spec_AddMonths.bits5 (fun HT_ HW_ => ?_)
      generalize wc.drew = w24 at BK353 BK354 HB hHeld ⊢
      refine pure_ (i := 0) (N := some 38) (v := ?_) (a' := ?_) bt11_1 rfl rfl (z10q HT_.out (by kernel_rfl)) (fun _ _ _ h => h) (Or.inl ⟨by rfl, ?_⟩) ?_ ?_
      rotate_left
      ·intro w'
       go_simp
       with_reducible rfl
      rotate_left
      ·simp only [Act.put, setIfInBounds_toArray, set_cons_zero, set_cons_succ, i64_w, i32_w]
       rfl
      refine pure_ (i := 2) (N := some 40) (v := ?_) (a' := ?_) bt11_2 rfl rfl (z10q HT_.out (by kernel_rfl)) (fun _ _ _ h => h) (Or.inl ⟨by rfl, ?_⟩) ?_ ?_
      rotate_left
      ·intro w'
       go_simp
       with_reducible rfl
      rotate_left
      ·simp only [Act.put, setIfInBounds_toArray, set_cons_zero, set_cons_succ, i64_w, i32_w]
       rfl
      refine pure_ (i := 5) (N := some 43) (v := ?_) (a' := ?_) bt11_3 rfl rfl (z10q HT_.out (by kernel_rfl)) (fun _ _ _ h => h) (Or.inl ⟨by rfl, ?_⟩) ?_ ?_
      rotate_left
      ·intro w'
       go_simp
       with_reducible rfl
      rotate_left
      ·simp only [Act.put, setIfInBounds_toArray, set_cons_zero, set_cons_succ, i64_w, i32_w]
       rfl
      refine take_ (i := 6) (N := some 44) (v := ?_) (a' := ?_) bt11_4 rfl rfl (z23q HT_.out HW_.out (by kernel_rfl)) (fun _ _ _ h => h) (Or.inl ⟨by rfl, ?_⟩) hHeld ?_ ?_
      rotate_left
      ·rintro w' ⟨s0, s1, s2⟩
       go_simp
       with_reducible rfl
      rotate_left
      ·simp only [Act.put, setIfInBounds_toArray, set_cons_zero, set_cons_succ, i64_w, i32_w]
       rfl
      refine join_ (σ := Nat) 1 bt11_5 (fun s_ => [(39, .int .i64 t357), (41, .int .i64 t358), (10, .pointer (some ⟨s_, 0, none⟩)), (42, .int .i64 (wrap64 (1 + t358))), (45, .agg #[.int .i64 t357, .int .i64 (wrap64 (1 + t358)), .int .i64 a1_2])]) (fun s_ w' => (w'.cell? ⟨gb353, 0, none⟩ = some (.int .i64 a1_0) ∧ w'.cell? ⟨gb353, 1, none⟩ = some (.int .i64 a1_1) ∧ w'.cell? ⟨gb353, 2, none⟩ = some (.int .i64 a1_2)) ∧ (w'.heap[gb353]? = some (.cells #[.int .i64 a1_0, .int .i64 a1_1, .int .i64 a1_2] 36 (0, 0))) ∧ (w'.heap[gb354]? = some (.cells #[.int .i64 0, .int .i64 0, .int .i64 0] 36 (0, 0))) ∧ (w'.heap[s_]? = some (.cells #[.int .i64 0, .int .i64 0, .int .i64 0] 36 (0, 0))) ∧ (w.heap.size ≤ s_) ∧ (w.heap.size ≤ s_) ∧ (gb353 ≠ s_) ∧ (s_ ≠ gb353) ∧ (gb354 ≠ s_) ∧ (s_ ≠ gb354) ∧ (Below w.heap.size w w')) ?_ ?_
      rotate_left
      ·intro hCont
       refine two_ (i := 1) (j := 8) (Ni := some 39) (Nj := some 10) bt11_6 bt11_7 rfl rfl rfl rfl (two_of HT_.out (by kernel_rfl)) (by decide) (by decide) (fun K hK => ?_) (fun K hK => ?_)
       ·skip
        refine goes_ Tryd.func75 (by kernel_rfl) rfl #[.int .i64 (wrap64 ((wrap64 ((wrap64 ((wrap64 (a1_0 * 12)) + a1_1)) - 1)) + a2)), .int .i64 12] (by rfl) rfl rfl (by (try simp only [map_toArray, map_cons, map_nil]); first | done | rfl | (simp only [length_drop, length_take]; rfl)) ?_
        with_reducible refine (spec_l2Floor.calls (wrap64 ((wrap64 ((wrap64 ((wrap64 (a1_0 * 12)) + a1_1)) - 1)) + a2)) 12 t357 _ A16.out).mono ?_
        rintro e w' ⟨rfl, ⟨nd, rfl⟩⟩
        refine ⟨_, rfl, ?_⟩
        refine hK.out _ _ ⟨(z7q BK353.out 0).trans rfl, (z7q BK353.out 1).trans rfl, (z7q BK353.out 2).trans rfl⟩ (fun hHeld => ?_)
        clear hK K
        refine norm_ (a' := ?_) ?_ ?_
        rotate_left
        ·show Act.put _ (some 39) _ = _
         simp only [Act.put, setIfInBounds_toArray, set_cons_zero, set_cons_succ, i64_w, i32_w]
         rfl
        refine two_ (i := 3) (j := 8) (Ni := some 41) (Nj := some 10) bt11_8 bt11_9 rfl rfl rfl rfl (two_of HT_.out (by kernel_rfl)) (by decide) (by decide) (fun K hK => ?_) (fun K hK => ?_)
        ·skip
         refine goes_ Tryd.func59 (by kernel_rfl) rfl #[.int .i64 (wrap64 ((wrap64 ((wrap64 ((wrap64 (a1_0 * 12)) + a1_1)) - 1)) + a2)), .int .i64 12] (by rfl) rfl rfl (by (try simp only [map_toArray, map_cons, map_nil]); first | done | rfl | (simp only [length_drop, length_take]; rfl)) ?_
         with_reducible refine (spec_l2Mod.calls (wrap64 ((wrap64 ((wrap64 ((wrap64 (a1_0 * 12)) + a1_1)) - 1)) + a2)) 12 t358 _ A17.out).mono ?_
         rintro e w' ⟨rfl, ⟨nd, rfl⟩⟩
         refine ⟨_, rfl, ?_⟩
         refine hK.out _ _ ⟨(z7q BK353.out 0).trans rfl, (z7q BK353.out 1).trans rfl, (z7q BK353.out 2).trans rfl⟩ (fun hHeld => ?_)
         clear hK K
         refine norm_ (a' := ?_) ?_ ?_
         rotate_left
         ·show Act.put _ (some 41) _ = _
          simp only [Act.put, setIfInBounds_toArray, set_cons_zero, set_cons_succ, i64_w, i32_w]
          rfl
         refine pure_ (i := 4) (N := some 42) (v := ?_) (a' := ?_) bt11_10 rfl rfl (z10q HT_.out (by kernel_rfl)) (fun _ _ _ h => h) (Or.inl ⟨by rfl, ?_⟩) ?_ ?_
         rotate_left
         ·intro w'
          go_simp
          with_reducible rfl
         rotate_left
         ·simp only [Act.put, setIfInBounds_toArray, set_cons_zero, set_cons_succ, i64_w, i32_w]
          rfl
         refine pure_ (i := 7) (N := some 45) (v := ?_) (a' := ?_) bt11_11 rfl rfl (z10q HT_.out (by kernel_rfl)) (fun _ _ _ h => h) (Or.inl ⟨by rfl, ?_⟩) ?_ ?_
         rotate_left
         ·intro w'
          go_simp
          with_reducible rfl
         rotate_left
         ·simp only [Act.put, setIfInBounds_toArray, set_cons_zero, set_cons_succ, i64_w, i32_w]
          rfl
         refine one_ (i := 8) (N := some 10) bt11_5 rfl rfl (one_of HT_.out (by kernel_rfl)) (by decide) (fun K hK => ?_)
         refine box_step ?hg (N := 10) ?hd (cs := #[.int .i64 0, .int .i64 0, .int .i64 0]) (t := 36) ?hr ?_; (case hd => rfl); (case hg => rfl); (case hr => first | (go_simp; done) | (go_simp; rfl))
         intro gb359 hg w25 hbox hb
         have n0_ := Aside0.mk (z13q (g := gb353) (o := .cells #[.int .i64 a1_0, .int .i64 a1_1, .int .i64 a1_2] 36 (0, 0)) (by (with_reducible repeat (first | refine z4q ?_ _ | refine z6q ?_ | refine z5q ?_ _)); exact BK353.out) hb)
         have n1_ := Aside0.mk (z13q (g := gb354) (o := .cells #[.int .i64 0, .int .i64 0, .int .i64 0] 36 (0, 0)) (by (with_reducible repeat (first | refine z4q ?_ _ | refine z6q ?_ | refine z5q ?_ _)); exact BK354.out) hb)
         have n2_ := Aside0.mk (z11q (by repeat (first | (with_reducible first | exact HB.out | apply z2q | apply z0q | apply z1q | refine z3q ?_ GE353.out | refine z3q ?_ GE354.out) | exact HB.out)) hb)
         have n3_ := Aside0.mk (hbox)
         have n4_ := Aside0.mk ((by rw [hg]; exact (z12q (by repeat (first | (with_reducible first | exact HB.out | apply z2q | apply z0q | apply z1q | refine z3q ?_ GE353.out | refine z3q ?_ GE354.out) | exact HB.out))) : w.heap.size ≤ gb359))
         have n5_ := Aside0.mk ((by rw [hg]; exact (z12q (by repeat (first | (with_reducible first | exact HB.out | apply z2q | apply z0q | apply z1q | refine z3q ?_ GE353.out | refine z3q ?_ GE354.out) | exact HB.out))) : w.heap.size ≤ gb359))
         have n6_ := Aside0.mk ((by rw [hg]; exact Nat.ne_of_lt (z21q (g := gb353) (o := .cells #[.int .i64 a1_0, .int .i64 a1_1, .int .i64 a1_2] 36 (0, 0)) (by (with_reducible repeat (first | refine z4q ?_ _ | refine z6q ?_ | refine z5q ?_ _)); exact BK353.out)) : gb353 ≠ gb359))
         have n7_ := Aside0.mk ((by rw [hg]; exact Nat.ne_of_gt (z21q (g := gb353) (o := .cells #[.int .i64 a1_0, .int .i64 a1_1, .int .i64 a1_2] 36 (0, 0)) (by (with_reducible repeat (first | refine z4q ?_ _ | refine z6q ?_ | refine z5q ?_ _)); exact BK353.out)) : gb359 ≠ gb353))
         have n8_ := Aside0.mk ((by rw [hg]; exact Nat.ne_of_lt (z21q (g := gb354) (o := .cells #[.int .i64 0, .int .i64 0, .int .i64 0] 36 (0, 0)) (by (with_reducible repeat (first | refine z4q ?_ _ | refine z6q ?_ | refine z5q ?_ _)); exact BK354.out)) : gb354 ≠ gb359))
         have n9_ := Aside0.mk ((by rw [hg]; exact Nat.ne_of_gt (z21q (g := gb354) (o := .cells #[.int .i64 0, .int .i64 0, .int .i64 0] 36 (0, 0)) (by (with_reducible repeat (first | refine z4q ?_ _ | refine z6q ?_ | refine z5q ?_ _)); exact BK354.out)) : gb359 ≠ gb354))
         clear BK353
         clear BK354
         clear HB
         have BK353 := n0_
         have BK354 := n1_
         have HB := n2_
         have BK359 := n3_
         have GW359 := n4_
         have GE359 := n5_
         have NB353_359 := n6_
         have NB359_353 := n7_
         have NB354_359 := n8_
         have NB359_354 := n9_
         clear n0_ n1_ n2_ n3_ n4_ n5_ n6_ n7_ n8_ n9_
         clear hb hbox hg
         refine hK.out _ _ ⟨(z7q BK353.out 0).trans rfl, (z7q BK353.out 1).trans rfl, (z7q BK353.out 2).trans rfl⟩ (fun hHeld => ?_)
         clear hK K
         refine norm_ (a' := ?_) ?_ ?_
         rotate_left
         ·show Act.put _ (some 10) _ = _
          simp only [Act.put, setIfInBounds_toArray, set_cons_zero, set_cons_succ, i64_w, i32_w]
          rfl
         exact norm_ (by simp only [putAll, Act.put, setIfInBounds_toArray, set_cons_zero, set_cons_succ]) (hCont (gb359) _ ⟨hHeld, (by (with_reducible repeat (first | refine z4q ?_ _ | refine z6q ?_ | refine z5q ?_ _)); exact BK353.out), (by (with_reducible repeat (first | refine z4q ?_ _ | refine z6q ?_ | refine z5q ?_ _)); exact BK354.out), (by (with_reducible repeat (first | refine z4q ?_ _ | refine z6q ?_ | refine z5q ?_ _)); exact BK359.out), GW359.out, GE359.out, NB353_359.out, NB359_353.out, NB354_359.out, NB359_354.out, (by repeat (first | (with_reducible first | exact HB.out | apply z2q | apply z0q | apply z1q | refine z3q ?_ GE353.out | refine z3q ?_ GE354.out | refine z3q ?_ GE359.out) | exact HB.out))⟩)
        ·skip
         refine box_step ?hg (N := 10) ?hd (cs := #[.int .i64 0, .int .i64 0, .int .i64 0]) (t := 36) ?hr ?_; (case hd => rfl); (case hg => rfl); (case hr => first | (go_simp; done) | (go_simp; rfl))
         intro gb359 hg w25 hbox hb
         have n0_ := Aside0.mk (z13q (g := gb353) (o := .cells #[.int .i64 a1_0, .int .i64 a1_1, .int .i64 a1_2] 36 (0, 0)) (by (with_reducible repeat (first | refine z4q ?_ _ | refine z6q ?_ | refine z5q ?_ _)); exact BK353.out) hb)
         have n1_ := Aside0.mk (z13q (g := gb354) (o := .cells #[.int .i64 0, .int .i64 0, .int .i64 0] 36 (0, 0)) (by (with_reducible repeat (first | refine z4q ?_ _ | refine z6q ?_ | refine z5q ?_ _)); exact BK354.out) hb)
         have n2_ := Aside0.mk (z11q (by repeat (first | (with_reducible first | exact HB.out | apply z2q | apply z0q | apply z1q | refine z3q ?_ GE353.out | refine z3q ?_ GE354.out) | exact HB.out)) hb)
         have n3_ := Aside0.mk (hbox)
         have n4_ := Aside0.mk ((by rw [hg]; exact (z12q (by repeat (first | (with_reducible first | exact HB.out | apply z2q | apply z0q | apply z1q | refine z3q ?_ GE353.out | refine z3q ?_ GE354.out) | exact HB.out))) : w.heap.size ≤ gb359))
         have n5_ := Aside0.mk ((by rw [hg]; exact (z12q (by repeat (first | (with_reducible first | exact HB.out | apply z2q | apply z0q | apply z1q | refine z3q ?_ GE353.out | refine z3q ?_ GE354.out) | exact HB.out))) : w.heap.size ≤ gb359))
         have n6_ := Aside0.mk ((by rw [hg]; exact Nat.ne_of_lt (z21q (g := gb353) (o := .cells #[.int .i64 a1_0, .int .i64 a1_1, .int .i64 a1_2] 36 (0, 0)) (by (with_reducible repeat (first | refine z4q ?_ _ | refine z6q ?_ | refine z5q ?_ _)); exact BK353.out)) : gb353 ≠ gb359))
         have n7_ := Aside0.mk ((by rw [hg]; exact Nat.ne_of_gt (z21q (g := gb353) (o := .cells #[.int .i64 a1_0, .int .i64 a1_1, .int .i64 a1_2] 36 (0, 0)) (by (with_reducible repeat (first | refine z4q ?_ _ | refine z6q ?_ | refine z5q ?_ _)); exact BK353.out)) : gb359 ≠ gb353))
         have n8_ := Aside0.mk ((by rw [hg]; exact Nat.ne_of_lt (z21q (g := gb354) (o := .cells #[.int .i64 0, .int .i64 0, .int .i64 0] 36 (0, 0)) (by (with_reducible repeat (first | refine z4q ?_ _ | refine z6q ?_ | refine z5q ?_ _)); exact BK354.out)) : gb354 ≠ gb359))
         have n9_ := Aside0.mk ((by rw [hg]; exact Nat.ne_of_gt (z21q (g := gb354) (o := .cells #[.int .i64 0, .int .i64 0, .int .i64 0] 36 (0, 0)) (by (with_reducible repeat (first | refine z4q ?_ _ | refine z6q ?_ | refine z5q ?_ _)); exact BK354.out)) : gb359 ≠ gb354))
         clear BK353
         clear BK354
         clear HB
         have BK353 := n0_
         have BK354 := n1_
         have HB := n2_
         have BK359 := n3_
         have GW359 := n4_
         have GE359 := n5_
         have NB353_359 := n6_
         have NB359_353 := n7_
         have NB354_359 := n8_
         have NB359_354 := n9_
         clear n0_ n1_ n2_ n3_ n4_ n5_ n6_ n7_ n8_ n9_
         clear hb hbox hg
         refine hK.out _ _ ⟨(z7q BK353.out 0).trans rfl, (z7q BK353.out 1).trans rfl, (z7q BK353.out 2).trans rfl⟩ (fun hHeld => ?_)
         clear hK K
         refine norm_ (a' := ?_) ?_ ?_
         rotate_left
         ·show Act.put _ (some 10) _ = _
          simp only [Act.put, setIfInBounds_toArray, set_cons_zero, set_cons_succ, i64_w, i32_w]
          rfl
         refine one_ (i := 3) (N := some 41) bt11_12 rfl rfl (one_of HT_.out (by kernel_rfl)) (by decide) (fun K hK => ?_)
         refine goes_ Tryd.func59 (by kernel_rfl) rfl #[.int .i64 (wrap64 ((wrap64 ((wrap64 ((wrap64 (a1_0 * 12)) + a1_1)) - 1)) + a2)), .int .i64 12] (by rfl) rfl rfl (by (try simp only [map_toArray, map_cons, map_nil]); first | done | rfl | (simp only [length_drop, length_take]; rfl)) ?_
         with_reducible refine (spec_l2Mod.calls (wrap64 ((wrap64 ((wrap64 ((wrap64 (a1_0 * 12)) + a1_1)) - 1)) + a2)) 12 t358 _ A17.out).mono ?_
         rintro e w' ⟨rfl, ⟨nd, rfl⟩⟩
         refine ⟨_, rfl, ?_⟩
         refine hK.out _ _ ⟨(z7q BK353.out 0).trans rfl, (z7q BK353.out 1).trans rfl, (z7q BK353.out 2).trans rfl⟩ (fun hHeld => ?_)
         clear hK K
         refine norm_ (a' := ?_) ?_ ?_
         rotate_left
         ·show Act.put _ (some 41) _ = _
          simp only [Act.put, setIfInBounds_toArray, set_cons_zero, set_cons_succ, i64_w, i32_w]
          rfl
         refine pure_ (i := 4) (N := some 42) (v := ?_) (a' := ?_) bt11_13 rfl rfl (z10q HT_.out (by kernel_rfl)) (fun _ _ _ h => h) (Or.inl ⟨by rfl, ?_⟩) ?_ ?_
         rotate_left
         ·intro w'
          go_simp
          with_reducible rfl
         rotate_left
         ·simp only [Act.put, setIfInBounds_toArray, set_cons_zero, set_cons_succ, i64_w, i32_w]
          rfl
         refine pure_ (i := 7) (N := some 45) (v := ?_) (a' := ?_) bt11_5 rfl rfl (z10q HT_.out (by kernel_rfl)) (fun _ _ _ h => h) (Or.inl ⟨by rfl, ?_⟩) ?_ ?_
         rotate_left
         ·intro w'
          go_simp
          with_reducible rfl
         rotate_left
         ·simp only [Act.put, setIfInBounds_toArray, set_cons_zero, set_cons_succ, i64_w, i32_w]
          rfl
         exact norm_ (by simp only [putAll, Act.put, setIfInBounds_toArray, set_cons_zero, set_cons_succ]) (hCont (gb359) _ ⟨hHeld, (by (with_reducible repeat (first | refine z4q ?_ _ | refine z6q ?_ | refine z5q ?_ _)); exact BK353.out), (by (with_reducible repeat (first | refine z4q ?_ _ | refine z6q ?_ | refine z5q ?_ _)); exact BK354.out), (by (with_reducible repeat (first | refine z4q ?_ _ | refine z6q ?_ | refine z5q ?_ _)); exact BK359.out), GW359.out, GE359.out, NB353_359.out, NB359_353.out, NB354_359.out, NB359_354.out, (by repeat (first | (with_reducible first | exact HB.out | apply z2q | apply z0q | apply z1q | refine z3q ?_ GE353.out | refine z3q ?_ GE354.out | refine z3q ?_ GE359.out) | exact HB.out))⟩)
       ·skip
        refine box_step ?hg (N := 10) ?hd (cs := #[.int .i64 0, .int .i64 0, .int .i64 0]) (t := 36) ?hr ?_; (case hd => rfl); (case hg => rfl); (case hr => first | (go_simp; done) | (go_simp; rfl))
        intro gb359 hg w25 hbox hb
        have n0_ := Aside0.mk (z13q (g := gb353) (o := .cells #[.int .i64 a1_0, .int .i64 a1_1, .int .i64 a1_2] 36 (0, 0)) (by (with_reducible repeat (first | refine z4q ?_ _ | refine z6q ?_ | refine z5q ?_ _)); exact BK353.out) hb)
        have n1_ := Aside0.mk (z13q (g := gb354) (o := .cells #[.int .i64 0, .int .i64 0, .int .i64 0] 36 (0, 0)) (by (with_reducible repeat (first | refine z4q ?_ _ | refine z6q ?_ | refine z5q ?_ _)); exact BK354.out) hb)
        have n2_ := Aside0.mk (z11q (by repeat (first | (with_reducible first | exact HB.out | apply z2q | apply z0q | apply z1q | refine z3q ?_ GE353.out | refine z3q ?_ GE354.out) | exact HB.out)) hb)
        have n3_ := Aside0.mk (hbox)
        have n4_ := Aside0.mk ((by rw [hg]; exact (z12q (by repeat (first | (with_reducible first | exact HB.out | apply z2q | apply z0q | apply z1q | refine z3q ?_ GE353.out | refine z3q ?_ GE354.out) | exact HB.out))) : w.heap.size ≤ gb359))
        have n5_ := Aside0.mk ((by rw [hg]; exact (z12q (by repeat (first | (with_reducible first | exact HB.out | apply z2q | apply z0q | apply z1q | refine z3q ?_ GE353.out | refine z3q ?_ GE354.out) | exact HB.out))) : w.heap.size ≤ gb359))
        have n6_ := Aside0.mk ((by rw [hg]; exact Nat.ne_of_lt (z21q (g := gb353) (o := .cells #[.int .i64 a1_0, .int .i64 a1_1, .int .i64 a1_2] 36 (0, 0)) (by (with_reducible repeat (first | refine z4q ?_ _ | refine z6q ?_ | refine z5q ?_ _)); exact BK353.out)) : gb353 ≠ gb359))
        have n7_ := Aside0.mk ((by rw [hg]; exact Nat.ne_of_gt (z21q (g := gb353) (o := .cells #[.int .i64 a1_0, .int .i64 a1_1, .int .i64 a1_2] 36 (0, 0)) (by (with_reducible repeat (first | refine z4q ?_ _ | refine z6q ?_ | refine z5q ?_ _)); exact BK353.out)) : gb359 ≠ gb353))
        have n8_ := Aside0.mk ((by rw [hg]; exact Nat.ne_of_lt (z21q (g := gb354) (o := .cells #[.int .i64 0, .int .i64 0, .int .i64 0] 36 (0, 0)) (by (with_reducible repeat (first | refine z4q ?_ _ | refine z6q ?_ | refine z5q ?_ _)); exact BK354.out)) : gb354 ≠ gb359))
        have n9_ := Aside0.mk ((by rw [hg]; exact Nat.ne_of_gt (z21q (g := gb354) (o := .cells #[.int .i64 0, .int .i64 0, .int .i64 0] 36 (0, 0)) (by (with_reducible repeat (first | refine z4q ?_ _ | refine z6q ?_ | refine z5q ?_ _)); exact BK354.out)) : gb359 ≠ gb354))
        clear BK353
        clear BK354
        clear HB
        have BK353 := n0_
        have BK354 := n1_
        have HB := n2_
        have BK359 := n3_
        have GW359 := n4_
        have GE359 := n5_
        have NB353_359 := n6_
        have NB359_353 := n7_
        have NB354_359 := n8_
        have NB359_354 := n9_
        clear n0_ n1_ n2_ n3_ n4_ n5_ n6_ n7_ n8_ n9_
        clear hb hbox hg
        refine hK.out _ _ ⟨(z7q BK353.out 0).trans rfl, (z7q BK353.out 1).trans rfl, (z7q BK353.out 2).trans rfl⟩ (fun hHeld => ?_)
        clear hK K
        refine norm_ (a' := ?_) ?_ ?_
        rotate_left
        ·show Act.put _ (some 10) _ = _
         simp only [Act.put, setIfInBounds_toArray, set_cons_zero, set_cons_succ, i64_w, i32_w]
         rfl
        refine one_ (i := 1) (N := some 39) bt11_9 rfl rfl (one_of HT_.out (by kernel_rfl)) (by decide) (fun K hK => ?_)
        refine goes_ Tryd.func75 (by kernel_rfl) rfl #[.int .i64 (wrap64 ((wrap64 ((wrap64 ((wrap64 (a1_0 * 12)) + a1_1)) - 1)) + a2)), .int .i64 12] (by rfl) rfl rfl (by (try simp only [map_toArray, map_cons, map_nil]); first | done | rfl | (simp only [length_drop, length_take]; rfl)) ?_
        with_reducible refine (spec_l2Floor.calls (wrap64 ((wrap64 ((wrap64 ((wrap64 (a1_0 * 12)) + a1_1)) - 1)) + a2)) 12 t357 _ A16.out).mono ?_
        rintro e w' ⟨rfl, ⟨nd, rfl⟩⟩
        refine ⟨_, rfl, ?_⟩
        refine hK.out _ _ ⟨(z7q BK353.out 0).trans rfl, (z7q BK353.out 1).trans rfl, (z7q BK353.out 2).trans rfl⟩ (fun hHeld => ?_)
        clear hK K
        refine norm_ (a' := ?_) ?_ ?_
        rotate_left
        ·show Act.put _ (some 39) _ = _
         simp only [Act.put, setIfInBounds_toArray, set_cons_zero, set_cons_succ, i64_w, i32_w]
         rfl
        refine one_ (i := 3) (N := some 41) bt11_12 rfl rfl (one_of HT_.out (by kernel_rfl)) (by decide) (fun K hK => ?_)
        refine goes_ Tryd.func59 (by kernel_rfl) rfl #[.int .i64 (wrap64 ((wrap64 ((wrap64 ((wrap64 (a1_0 * 12)) + a1_1)) - 1)) + a2)), .int .i64 12] (by rfl) rfl rfl (by (try simp only [map_toArray, map_cons, map_nil]); first | done | rfl | (simp only [length_drop, length_take]; rfl)) ?_
        with_reducible refine (spec_l2Mod.calls (wrap64 ((wrap64 ((wrap64 ((wrap64 (a1_0 * 12)) + a1_1)) - 1)) + a2)) 12 t358 _ A17.out).mono ?_
        rintro e w' ⟨rfl, ⟨nd, rfl⟩⟩
        refine ⟨_, rfl, ?_⟩
        refine hK.out _ _ ⟨(z7q BK353.out 0).trans rfl, (z7q BK353.out 1).trans rfl, (z7q BK353.out 2).trans rfl⟩ (fun hHeld => ?_)
        clear hK K
        refine norm_ (a' := ?_) ?_ ?_
        rotate_left
        ·show Act.put _ (some 41) _ = _
         simp only [Act.put, setIfInBounds_toArray, set_cons_zero, set_cons_succ, i64_w, i32_w]
         rfl
        refine pure_ (i := 4) (N := some 42) (v := ?_) (a' := ?_) bt11_13 rfl rfl (z10q HT_.out (by kernel_rfl)) (fun _ _ _ h => h) (Or.inl ⟨by rfl, ?_⟩) ?_ ?_
        rotate_left
        ·intro w'
         go_simp
         with_reducible rfl
        rotate_left
        ·simp only [Act.put, setIfInBounds_toArray, set_cons_zero, set_cons_succ, i64_w, i32_w]
         rfl
        refine pure_ (i := 7) (N := some 45) (v := ?_) (a' := ?_) bt11_5 rfl rfl (z10q HT_.out (by kernel_rfl)) (fun _ _ _ h => h) (Or.inl ⟨by rfl, ?_⟩) ?_ ?_
        rotate_left
        ·intro w'
         go_simp
         with_reducible rfl
        rotate_left
        ·simp only [Act.put, setIfInBounds_toArray, set_cons_zero, set_cons_succ, i64_w, i32_w]
         rfl
        exact norm_ (by simp only [putAll, Act.put, setIfInBounds_toArray, set_cons_zero, set_cons_succ]) (hCont (gb359) _ ⟨hHeld, (by (with_reducible repeat (first | refine z4q ?_ _ | refine z6q ?_ | refine z5q ?_ _)); exact BK353.out), (by (with_reducible repeat (first | refine z4q ?_ _ | refine z6q ?_ | refine z5q ?_ _)); exact BK354.out), (by (with_reducible repeat (first | refine z4q ?_ _ | refine z6q ?_ | refine z5q ?_ _)); exact BK359.out), GW359.out, GE359.out, NB353_359.out, NB359_353.out, NB354_359.out, NB359_354.out, (by repeat (first | (with_reducible first | exact HB.out | apply z2q | apply z0q | apply z1q | refine z3q ?_ GE353.out | refine z3q ?_ GE354.out | refine z3q ?_ GE359.out) | exact HB.out))⟩)
      rintro gb359 w26 ⟨hS_, h0_, h1_, h2_, h3_, h4_, h5_, h6_, h7_, h8_, h9_⟩
      have n0_ : Aside0 (w26.heap[gb353]? = some (.cells #[.int .i64 a1_0, .int .i64 a1_1, .int .i64 a1_2] 36 (0, 0))) := ⟨h0_⟩
      have n1_ : Aside0 (w26.heap[gb354]? = some (.cells #[.int .i64 0, .int .i64 0, .int .i64 0] 36 (0, 0))) := ⟨h1_⟩
      have n2_ : Aside0 (w26.heap[gb359]? = some (.cells #[.int .i64 0, .int .i64 0, .int .i64 0] 36 (0, 0))) := ⟨h2_⟩
      have n3_ : Aside0 (w.heap.size ≤ gb359) := ⟨h3_⟩
      have n4_ : Aside0 (w.heap.size ≤ gb359) := ⟨h4_⟩
      have n5_ : Aside0 (gb353 ≠ gb359) := ⟨h5_⟩
      have n6_ : Aside0 (gb359 ≠ gb353) := ⟨h6_⟩
      have n7_ : Aside0 (gb354 ≠ gb359) := ⟨h7_⟩
      have n8_ : Aside0 (gb359 ≠ gb354) := ⟨h8_⟩
      have n9_ : Aside0 (Below w.heap.size w w26) := ⟨h9_⟩
      clear BK353
      clear BK354
      clear HB
      clear h0_ h1_ h2_ h3_ h4_ h5_ h6_ h7_ h8_ h9_
      have BK353 := n0_
      have BK354 := n1_
      have BK359 := n2_
      have GW359 := n3_
      have GE359 := n4_
      have NB353_359 := n5_
      have NB359_353 := n6_
      have NB354_359 := n7_
      have NB359_354 := n8_
      have HB := n9_
      clear n0_ n1_ n2_ n3_ n4_ n5_ n6_ n7_ n8_ n9_
      have hHeld : w26.cell? ⟨gb353, 0, none⟩ = some (.int .i64 a1_0) ∧ w26.cell? ⟨gb353, 1, none⟩ = some (.int .i64 a1_1) ∧ w26.cell? ⟨gb353, 2, none⟩ = some (.int .i64 a1_2) := hS_
      refine norm_ (a' := ?_) ?_ ?_
      rotate_left
      ·simp only [putAll, Act.put, setIfInBounds_toArray, set_cons_zero, set_cons_succ]
       rfl
      refine one_ (i := 9) (N := none) bt11_14 rfl rfl (one_of HT_.out (by kernel_rfl)) (by decide) (fun K hK => ?_)
      have hs27 : w26.cell? ⟨gb359, 0, none⟩ = some (.int .i64 0) := (z7q BK359.out 0).trans rfl
      have hfs27 := z8q BK359.out 0
      have hns27_0 := NB353_359.out
      have hns27_1 := NB354_359.out
      have hms27_0 := NB359_353.out
      have hms27_1 := NB359_354.out
      have hs28 : w26.cell? ⟨gb359, 1, none⟩ = some (.int .i64 0) := (z7q BK359.out 1).trans rfl
      have hfs28 := z8q BK359.out 1
      have hns28_0 := NB353_359.out
      have hns28_1 := NB354_359.out
      have hms28_0 := NB359_353.out
      have hms28_1 := NB359_354.out
      have hs29 : w26.cell? ⟨gb359, 2, none⟩ = some (.int .i64 0) := (z7q BK359.out 2).trans rfl
      have hfs29 := z8q BK359.out 2
      have hns29_0 := NB353_359.out
      have hns29_1 := NB354_359.out
      have hms29_0 := NB359_353.out
      have hms29_1 := NB359_354.out
      refine skip_ (w1 := ?_) (by rfl) rfl ?_ ?_
      rotate_left
      ·go_simp
       rfl
      refine hK.out _ _ ⟨((z24q (p := ⟨gb359, _, none⟩) NB353_359.out _).trans (((z24q (p := ⟨gb359, _, none⟩) NB353_359.out _).trans (((z24q (p := ⟨gb359, _, none⟩) NB353_359.out _).trans (hHeld.1)))))), ((z24q (p := ⟨gb359, _, none⟩) NB353_359.out _).trans (((z24q (p := ⟨gb359, _, none⟩) NB353_359.out _).trans (((z24q (p := ⟨gb359, _, none⟩) NB353_359.out _).trans (hHeld.2.1)))))), ((z24q (p := ⟨gb359, _, none⟩) NB353_359.out _).trans (((z24q (p := ⟨gb359, _, none⟩) NB353_359.out _).trans (((z24q (p := ⟨gb359, _, none⟩) NB353_359.out _).trans (hHeld.2.2))))))⟩ (fun hHeld => ?_)
      clear hK K
      refine done_ (done_of HT_.out (by kernel_rfl)) ?_
      have hnb30 := NB359_353.out
      have hnc30 := NB353_359.out
      have hnb31 := NB359_354.out
      have hnc31 := NB354_359.out
      have hcz32_0 : w26.cell? ⟨gb359, 0, none⟩ = some (.int .i64 0) := (z7q BK359.out 0).trans rfl
      have hcz32_1 : w26.cell? ⟨gb359, 1, none⟩ = some (.int .i64 0) := (z7q BK359.out 1).trans rfl
      have hcz32_2 : w26.cell? ⟨gb359, 2, none⟩ = some (.int .i64 0) := (z7q BK359.out 2).trans rfl
      have hfz32_0 := z8q BK359.out 0
      have hfz32_1 := z8q BK359.out 1
      have hfz32_2 := z8q BK359.out 2
      try go_wp2_with (first | ((with_reducible refine z9q (f := 76) rfl ?_); refine z17q (some 48) rfl rfl Tryd.func76 (by kernel_rfl) rfl #[.int .i64 t357] rfl (by (try simp only [map_toArray, map_cons, map_nil]); first | done | rfl | (simp only [length_drop, length_take]; rfl)) ?_; (with_reducible refine (spec_l2Year.calls t357 true _ A18.out).mono ?_); rintro e w' ⟨rfl, ⟨nd, rfl⟩⟩; refine ⟨_, rfl, ?_⟩) | ((with_reducible refine z9q (f := 77) rfl ?_); refine z17q (some 56) rfl rfl Tryd.func77 (by kernel_rfl) rfl #[.int .i64 a0, .int .i64 t357, .int .i64 (wrap64 (1 + t358))] rfl (by (try simp only [map_toArray, map_cons, map_nil]); first | done | rfl | (simp only [length_drop, length_take]; rfl)) ?_; (with_reducible refine (spec_l2MonthDays.calls a0 t357 (wrap64 (1 + t358)) t361 _ A20.out).mono ?_); rintro e w33 ⟨rfl, hb⟩; refine ⟨_, rfl, ?_⟩; have n0_ := Aside0.mk (z13q (g := gb353) (o := .cells #[.int .i64 a1_0, .int .i64 a1_1, .int .i64 a1_2] 36 (0, 0)) (by (with_reducible repeat (first | refine z4q ?_ _ | refine z6q ?_ | refine z5q ?_ _)); refine z18q ?_ NB353_359.out _; (with_reducible repeat (first | refine z4q ?_ _ | refine z6q ?_ | refine z5q ?_ _)); refine z18q ?_ NB353_359.out _; (with_reducible repeat (first | refine z4q ?_ _ | refine z6q ?_ | refine z5q ?_ _)); refine z18q ?_ NB353_359.out _; (with_reducible repeat (first | refine z4q ?_ _ | refine z6q ?_ | refine z5q ?_ _)); exact BK353.out) hb); have n1_ := Aside0.mk (z13q (g := gb354) (o := .cells #[.int .i64 0, .int .i64 0, .int .i64 0] 36 (0, 0)) (by (with_reducible repeat (first | refine z4q ?_ _ | refine z6q ?_ | refine z5q ?_ _)); refine z18q ?_ NB354_359.out _; (with_reducible repeat (first | refine z4q ?_ _ | refine z6q ?_ | refine z5q ?_ _)); refine z18q ?_ NB354_359.out _; (with_reducible repeat (first | refine z4q ?_ _ | refine z6q ?_ | refine z5q ?_ _)); refine z18q ?_ NB354_359.out _; (with_reducible repeat (first | refine z4q ?_ _ | refine z6q ?_ | refine z5q ?_ _)); exact BK354.out) hb); have n2_ := Aside0.mk (z13q (g := gb359) (o := .cells #[.int .i64 t357, .int .i64 (wrap64 (1 + t358)), .int .i64 a1_2] 36 (0, 0)) (by (with_reducible repeat (first | refine z4q ?_ _ | refine z6q ?_ | refine z5q ?_ _)); refine z14q (cs := #[.int .i64 t357, .int .i64 (wrap64 (1 + t358)), .int .i64 0]) ?_ 2 _ rfl; (with_reducible repeat (first | refine z4q ?_ _ | refine z6q ?_ | refine z5q ?_ _)); refine z14q (cs := #[.int .i64 t357, .int .i64 0, .int .i64 0]) ?_ 1 _ rfl; (with_reducible repeat (first | refine z4q ?_ _ | refine z6q ?_ | refine z5q ?_ _)); refine z14q (cs := #[.int .i64 0, .int .i64 0, .int .i64 0]) ?_ 0 _ rfl; (with_reducible repeat (first | refine z4q ?_ _ | refine z6q ?_ | refine z5q ?_ _)); exact BK359.out) hb); have n3_ := Aside0.mk (z11q (by repeat (first | (with_reducible first | exact HB.out | apply z2q | apply z0q | apply z1q | refine z3q ?_ GE353.out | refine z3q ?_ GE354.out | refine z3q ?_ GE359.out) | exact HB.out)) hb); clear BK353; clear BK354; clear BK359; clear HB; have BK353 := n0_; have BK354 := n1_; have BK359 := n2_; have HB := n3_; clear n0_ n1_ n2_ n3_; (try clear hb); (try clear hb2); (try clear hk); (try clear hi); have hcz34_0 : w33.cell? ⟨gb359, 0, none⟩ = some (.int .i64 t357) := (z7q BK359.out 0).trans rfl; have hcz34_1 : w33.cell? ⟨gb359, 1, none⟩ = some (.int .i64 (wrap64 (1 + t358))) := (z7q BK359.out 1).trans rfl; have hcz34_2 : w33.cell? ⟨gb359, 2, none⟩ = some (.int .i64 a1_2) := (z7q BK359.out 2).trans rfl; have hfz34_0 := z8q BK359.out 0; have hfz34_1 := z8q BK359.out 1; have hfz34_2 := z8q BK359.out 2; have hcz35_0 : w33.cell? ⟨gb354, 0, none⟩ = some (.int .i64 0) := (z7q BK354.out 0).trans rfl; have hcz35_1 : w33.cell? ⟨gb354, 1, none⟩ = some (.int .i64 0) := (z7q BK354.out 1).trans rfl; have hcz35_2 : w33.cell? ⟨gb354, 2, none⟩ = some (.int .i64 0) := (z7q BK354.out 2).trans rfl; have hfz35_0 := z8q BK354.out 0; have hfz35_1 := z8q BK354.out 1; have hfz35_2 := z8q BK354.out 2))
      refine bodyPost_ret (results_cell_row rfl _ _ gb354 36 #[.int .i64 t357, .int .i64 (wrap64 (1 + t358)), .int .i64 t361] (0, 0) _ rfl (by (with_reducible repeat (first | refine z4q ?_ _ | refine z6q ?_ | refine z5q ?_ _)); refine z14q (cs := #[.int .i64 t357, .int .i64 (wrap64 (1 + t358)), .int .i64 0]) ?_ 2 _ rfl; (with_reducible repeat (first | refine z4q ?_ _ | refine z6q ?_ | refine z5q ?_ _)); refine z14q (cs := #[.int .i64 t357, .int .i64 0, .int .i64 0]) ?_ 1 _ rfl; (with_reducible repeat (first | refine z4q ?_ _ | refine z6q ?_ | refine z5q ?_ _)); refine z14q (cs := #[.int .i64 0, .int .i64 0, .int .i64 0]) ?_ 0 _ rfl; (with_reducible repeat (first | refine z4q ?_ _ | refine z6q ?_ | refine z5q ?_ _)); refine z18q ?_ NB354_359.out _; (with_reducible repeat (first | refine z4q ?_ _ | refine z6q ?_ | refine z5q ?_ _)); exact BK354.out) Tryd.underlying36 rfl (by kernel_rfl)) rfl ?_
      exact ⟨by first | rfl | (simp [errW_none, errW_some] <;> rfl) | (simp [*, errW_none, errW_some] <;> rfl), by repeat (first | (with_reducible first | exact HB.out | apply z2q | apply z0q | apply z1q | refine z3q ?_ GE353.out | refine z3q ?_ GE354.out | refine z3q ?_ GE359.out) | exact HB.out)⟩
     ·rw [if_neg c21] at H
      have c21b0 : decide (t361 < a1_2) = false := decide_eq_false c21
      clear c21
      simp only [Option.some.injEq, Prod.mk.injEq] at H
      obtain ⟨rfl, rfl, rfl⟩ := H
      have hnb36 := NB353_354.out
      have hnc36 := NB354_353.out
      have hcz37_0 : wc.cell? ⟨gb353, 0, none⟩ = some (.int .i64 a1_0) := (z7q BK353.out 0).trans rfl
      have hcz37_1 : wc.cell? ⟨gb353, 1, none⟩ = some (.int .i64 a1_1) := (z7q BK353.out 1).trans rfl
      have hcz37_2 : wc.cell? ⟨gb353, 2, none⟩ = some (.int .i64 a1_2) := (z7q BK353.out 2).trans rfl
      have hfz37_0 := z8q BK353.out 0
      have hfz37_1 := z8q BK353.out 1
      have hfz37_2 := z8q BK353.out 2
      try go_wp2
      have n0_ := Aside0.mk (z6q BK353.out)
      have n1_ := Aside0.mk (z6q BK354.out)
      have n2_ := Aside0.mk (z1q HB.out)
      clear BK353
      clear BK354
      clear HB
      have BK353 := n0_
      have BK354 := n1_
      have HB := n2_
      clear n0_ n1_ n2_
      refine start_ (n := 10) (S := fun w' => w'.cell? ⟨gb353, 0, none⟩ = some (.int .i64 a1_0) ∧ w'.cell? ⟨gb353, 1, none⟩ = some (.int .i64 a1_1) ∧ w'.cell? ⟨gb353, 2, none⟩ = some (.int .i64 a1_2)) (ds := []) bt11_0 (by kernel_rfl) rfl rfl ⟨(z7q BK353.out 0).trans rfl, (z7q BK353.out 1).trans rfl, (z7q BK353.out 2).trans rfl⟩ (fun hHeld => ?_); refine with_tabW spec_AddMonths.tab5 spec_AddMonths.bits5 (fun HT_ HW_ => ?_)
      generalize wc.drew = w38 at BK353 BK354 HB hHeld ⊢
      refine pure_ (i := 0) (N := some 38) (v := ?_) (a' := ?_) bt11_1 rfl rfl (z10q HT_.out (by kernel_rfl)) (fun _ _ _ h => h) (Or.inl ⟨by rfl, ?_⟩) ?_ ?_
      rotate_left
      ·intro w'
       go_simp
       with_reducible rfl
      rotate_left
      ·simp only [Act.put, setIfInBounds_toArray, set_cons_zero, set_cons_succ, i64_w, i32_w]
       rfl
      refine pure_ (i := 2) (N := some 40) (v := ?_) (a' := ?_) bt11_2 rfl rfl (z10q HT_.out (by kernel_rfl)) (fun _ _ _ h => h) (Or.inl ⟨by rfl, ?_⟩) ?_ ?_
      rotate_left
      ·intro w'
       go_simp
       with_reducible rfl
      rotate_left
      ·simp only [Act.put, setIfInBounds_toArray, set_cons_zero, set_cons_succ, i64_w, i32_w]
       rfl
      refine pure_ (i := 5) (N := some 43) (v := ?_) (a' := ?_) bt11_3 rfl rfl (z10q HT_.out (by kernel_rfl)) (fun _ _ _ h => h) (Or.inl ⟨by rfl, ?_⟩) ?_ ?_
      rotate_left
      ·intro w'
       go_simp
       with_reducible rfl
      rotate_left
      ·simp only [Act.put, setIfInBounds_toArray, set_cons_zero, set_cons_succ, i64_w, i32_w]
       rfl
      refine take_ (i := 6) (N := some 44) (v := ?_) (a' := ?_) bt11_4 rfl rfl (z23q HT_.out HW_.out (by kernel_rfl)) (fun _ _ _ h => h) (Or.inl ⟨by rfl, ?_⟩) hHeld ?_ ?_
      rotate_left
      ·rintro w' ⟨s0, s1, s2⟩
       go_simp
       with_reducible rfl
      rotate_left
      ·simp only [Act.put, setIfInBounds_toArray, set_cons_zero, set_cons_succ, i64_w, i32_w]
       rfl
      refine join_ (σ := Nat) 1 bt11_5 (fun s_ => [(39, .int .i64 t357), (41, .int .i64 t358), (10, .pointer (some ⟨s_, 0, none⟩)), (42, .int .i64 (wrap64 (1 + t358))), (45, .agg #[.int .i64 t357, .int .i64 (wrap64 (1 + t358)), .int .i64 a1_2])]) (fun s_ w' => (w'.cell? ⟨gb353, 0, none⟩ = some (.int .i64 a1_0) ∧ w'.cell? ⟨gb353, 1, none⟩ = some (.int .i64 a1_1) ∧ w'.cell? ⟨gb353, 2, none⟩ = some (.int .i64 a1_2)) ∧ (w'.heap[gb353]? = some (.cells #[.int .i64 a1_0, .int .i64 a1_1, .int .i64 a1_2] 36 (0, 0))) ∧ (w'.heap[gb354]? = some (.cells #[.int .i64 0, .int .i64 0, .int .i64 0] 36 (0, 0))) ∧ (w'.heap[s_]? = some (.cells #[.int .i64 0, .int .i64 0, .int .i64 0] 36 (0, 0))) ∧ (w.heap.size ≤ s_) ∧ (w.heap.size ≤ s_) ∧ (gb353 ≠ s_) ∧ (s_ ≠ gb353) ∧ (gb354 ≠ s_) ∧ (s_ ≠ gb354) ∧ (Below w.heap.size w w')) ?_ ?_
      rotate_left
      ·intro hCont
       refine two_ (i := 1) (j := 8) (Ni := some 39) (Nj := some 10) bt11_6 bt11_7 rfl rfl rfl rfl (two_of HT_.out (by kernel_rfl)) (by decide) (by decide) (fun K hK => ?_) (fun K hK => ?_)
       ·skip
        refine goes_ Tryd.func75 (by kernel_rfl) rfl #[.int .i64 (wrap64 ((wrap64 ((wrap64 ((wrap64 (a1_0 * 12)) + a1_1)) - 1)) + a2)), .int .i64 12] (by rfl) rfl rfl (by (try simp only [map_toArray, map_cons, map_nil]); first | done | rfl | (simp only [length_drop, length_take]; rfl)) ?_
        with_reducible refine (spec_l2Floor.calls (wrap64 ((wrap64 ((wrap64 ((wrap64 (a1_0 * 12)) + a1_1)) - 1)) + a2)) 12 t357 _ A16.out).mono ?_
        rintro e w' ⟨rfl, ⟨nd, rfl⟩⟩
        refine ⟨_, rfl, ?_⟩
        refine hK.out _ _ ⟨(z7q BK353.out 0).trans rfl, (z7q BK353.out 1).trans rfl, (z7q BK353.out 2).trans rfl⟩ (fun hHeld => ?_)
        clear hK K
        refine norm_ (a' := ?_) ?_ ?_
        rotate_left
        ·show Act.put _ (some 39) _ = _
         simp only [Act.put, setIfInBounds_toArray, set_cons_zero, set_cons_succ, i64_w, i32_w]
         rfl
        refine two_ (i := 3) (j := 8) (Ni := some 41) (Nj := some 10) bt11_8 bt11_9 rfl rfl rfl rfl (two_of HT_.out (by kernel_rfl)) (by decide) (by decide) (fun K hK => ?_) (fun K hK => ?_)
        ·skip
         refine goes_ Tryd.func59 (by kernel_rfl) rfl #[.int .i64 (wrap64 ((wrap64 ((wrap64 ((wrap64 (a1_0 * 12)) + a1_1)) - 1)) + a2)), .int .i64 12] (by rfl) rfl rfl (by (try simp only [map_toArray, map_cons, map_nil]); first | done | rfl | (simp only [length_drop, length_take]; rfl)) ?_
         with_reducible refine (spec_l2Mod.calls (wrap64 ((wrap64 ((wrap64 ((wrap64 (a1_0 * 12)) + a1_1)) - 1)) + a2)) 12 t358 _ A17.out).mono ?_
         rintro e w' ⟨rfl, ⟨nd, rfl⟩⟩
         refine ⟨_, rfl, ?_⟩
         refine hK.out _ _ ⟨(z7q BK353.out 0).trans rfl, (z7q BK353.out 1).trans rfl, (z7q BK353.out 2).trans rfl⟩ (fun hHeld => ?_)
         clear hK K
         refine norm_ (a' := ?_) ?_ ?_
         rotate_left
         ·show Act.put _ (some 41) _ = _
          simp only [Act.put, setIfInBounds_toArray, set_cons_zero, set_cons_succ, i64_w, i32_w]
          rfl
         refine pure_ (i := 4) (N := some 42) (v := ?_) (a' := ?_) bt11_10 rfl rfl (z10q HT_.out (by kernel_rfl)) (fun _ _ _ h => h) (Or.inl ⟨by rfl, ?_⟩) ?_ ?_
         rotate_left
         ·intro w'
          go_simp
          with_reducible rfl
         rotate_left
         ·simp only [Act.put, setIfInBounds_toArray, set_cons_zero, set_cons_succ, i64_w, i32_w]
          rfl
         refine pure_ (i := 7) (N := some 45) (v := ?_) (a' := ?_) bt11_11 rfl rfl (z10q HT_.out (by kernel_rfl)) (fun _ _ _ h => h) (Or.inl ⟨by rfl, ?_⟩) ?_ ?_
         rotate_left
         ·intro w'
          go_simp
          with_reducible rfl
         rotate_left
         ·simp only [Act.put, setIfInBounds_toArray, set_cons_zero, set_cons_succ, i64_w, i32_w]
          rfl
         refine one_ (i := 8) (N := some 10) bt11_5 rfl rfl (one_of HT_.out (by kernel_rfl)) (by decide) (fun K hK => ?_)
         refine box_step ?hg (N := 10) ?hd (cs := #[.int .i64 0, .int .i64 0, .int .i64 0]) (t := 36) ?hr ?_; (case hd => rfl); (case hg => rfl); (case hr => first | (go_simp; done) | (go_simp; rfl))
         intro gb359 hg w39 hbox hb
         have n0_ := Aside0.mk (z13q (g := gb353) (o := .cells #[.int .i64 a1_0, .int .i64 a1_1, .int .i64 a1_2] 36 (0, 0)) (by (with_reducible repeat (first | refine z4q ?_ _ | refine z6q ?_ | refine z5q ?_ _)); exact BK353.out) hb)
         have n1_ := Aside0.mk (z13q (g := gb354) (o := .cells #[.int .i64 0, .int .i64 0, .int .i64 0] 36 (0, 0)) (by (with_reducible repeat (first | refine z4q ?_ _ | refine z6q ?_ | refine z5q ?_ _)); exact BK354.out) hb)
         have n2_ := Aside0.mk (z11q (by repeat (first | (with_reducible first | exact HB.out | apply z2q | apply z0q | apply z1q | refine z3q ?_ GE353.out | refine z3q ?_ GE354.out) | exact HB.out)) hb)
         have n3_ := Aside0.mk (hbox)
         have n4_ := Aside0.mk ((by rw [hg]; exact (z12q (by repeat (first | (with_reducible first | exact HB.out | apply z2q | apply z0q | apply z1q | refine z3q ?_ GE353.out | refine z3q ?_ GE354.out) | exact HB.out))) : w.heap.size ≤ gb359))
         have n5_ := Aside0.mk ((by rw [hg]; exact (z12q (by repeat (first | (with_reducible first | exact HB.out | apply z2q | apply z0q | apply z1q | refine z3q ?_ GE353.out | refine z3q ?_ GE354.out) | exact HB.out))) : w.heap.size ≤ gb359))
         have n6_ := Aside0.mk ((by rw [hg]; exact Nat.ne_of_lt (z21q (g := gb353) (o := .cells #[.int .i64 a1_0, .int .i64 a1_1, .int .i64 a1_2] 36 (0, 0)) (by (with_reducible repeat (first | refine z4q ?_ _ | refine z6q ?_ | refine z5q ?_ _)); exact BK353.out)) : gb353 ≠ gb359))
         have n7_ := Aside0.mk ((by rw [hg]; exact Nat.ne_of_gt (z21q (g := gb353) (o := .cells #[.int .i64 a1_0, .int .i64 a1_1, .int .i64 a1_2] 36 (0, 0)) (by (with_reducible repeat (first | refine z4q ?_ _ | refine z6q ?_ | refine z5q ?_ _)); exact BK353.out)) : gb359 ≠ gb353))
         have n8_ := Aside0.mk ((by rw [hg]; exact Nat.ne_of_lt (z21q (g := gb354) (o := .cells #[.int .i64 0, .int .i64 0, .int .i64 0] 36 (0, 0)) (by (with_reducible repeat (first | refine z4q ?_ _ | refine z6q ?_ | refine z5q ?_ _)); exact BK354.out)) : gb354 ≠ gb359))
         have n9_ := Aside0.mk ((by rw [hg]; exact Nat.ne_of_gt (z21q (g := gb354) (o := .cells #[.int .i64 0, .int .i64 0, .int .i64 0] 36 (0, 0)) (by (with_reducible repeat (first | refine z4q ?_ _ | refine z6q ?_ | refine z5q ?_ _)); exact BK354.out)) : gb359 ≠ gb354))
         clear BK353
         clear BK354
         clear HB
         have BK353 := n0_
         have BK354 := n1_
         have HB := n2_
         have BK359 := n3_
         have GW359 := n4_
         have GE359 := n5_
         have NB353_359 := n6_
         have NB359_353 := n7_
         have NB354_359 := n8_
         have NB359_354 := n9_
         clear n0_ n1_ n2_ n3_ n4_ n5_ n6_ n7_ n8_ n9_
         clear hb hbox hg
         refine hK.out _ _ ⟨(z7q BK353.out 0).trans rfl, (z7q BK353.out 1).trans rfl, (z7q BK353.out 2).trans rfl⟩ (fun hHeld => ?_)
         clear hK K
         refine norm_ (a' := ?_) ?_ ?_
         rotate_left
         ·show Act.put _ (some 10) _ = _
          simp only [Act.put, setIfInBounds_toArray, set_cons_zero, set_cons_succ, i64_w, i32_w]
          rfl
         exact norm_ (by simp only [putAll, Act.put, setIfInBounds_toArray, set_cons_zero, set_cons_succ]) (hCont (gb359) _ ⟨hHeld, (by (with_reducible repeat (first | refine z4q ?_ _ | refine z6q ?_ | refine z5q ?_ _)); exact BK353.out), (by (with_reducible repeat (first | refine z4q ?_ _ | refine z6q ?_ | refine z5q ?_ _)); exact BK354.out), (by (with_reducible repeat (first | refine z4q ?_ _ | refine z6q ?_ | refine z5q ?_ _)); exact BK359.out), GW359.out, GE359.out, NB353_359.out, NB359_353.out, NB354_359.out, NB359_354.out, (by repeat (first | (with_reducible first | exact HB.out | apply z2q | apply z0q | apply z1q | refine z3q ?_ GE353.out | refine z3q ?_ GE354.out | refine z3q ?_ GE359.out) | exact HB.out))⟩)
        ·skip
         refine box_step ?hg (N := 10) ?hd (cs := #[.int .i64 0, .int .i64 0, .int .i64 0]) (t := 36) ?hr ?_; (case hd => rfl); (case hg => rfl); (case hr => first | (go_simp; done) | (go_simp; rfl))
         intro gb359 hg w39 hbox hb
         have n0_ := Aside0.mk (z13q (g := gb353) (o := .cells #[.int .i64 a1_0, .int .i64 a1_1, .int .i64 a1_2] 36 (0, 0)) (by (with_reducible repeat (first | refine z4q ?_ _ | refine z6q ?_ | refine z5q ?_ _)); exact BK353.out) hb)
         have n1_ := Aside0.mk (z13q (g := gb354) (o := .cells #[.int .i64 0, .int .i64 0, .int .i64 0] 36 (0, 0)) (by (with_reducible repeat (first | refine z4q ?_ _ | refine z6q ?_ | refine z5q ?_ _)); exact BK354.out) hb)
         have n2_ := Aside0.mk (z11q (by repeat (first | (with_reducible first | exact HB.out | apply z2q | apply z0q | apply z1q | refine z3q ?_ GE353.out | refine z3q ?_ GE354.out) | exact HB.out)) hb)
         have n3_ := Aside0.mk (hbox)
         have n4_ := Aside0.mk ((by rw [hg]; exact (z12q (by repeat (first | (with_reducible first | exact HB.out | apply z2q | apply z0q | apply z1q | refine z3q ?_ GE353.out | refine z3q ?_ GE354.out) | exact HB.out))) : w.heap.size ≤ gb359))
         have n5_ := Aside0.mk ((by rw [hg]; exact (z12q (by repeat (first | (with_reducible first | exact HB.out | apply z2q | apply z0q | apply z1q | refine z3q ?_ GE353.out | refine z3q ?_ GE354.out) | exact HB.out))) : w.heap.size ≤ gb359))
         have n6_ := Aside0.mk ((by rw [hg]; exact Nat.ne_of_lt (z21q (g := gb353) (o := .cells #[.int .i64 a1_0, .int .i64 a1_1, .int .i64 a1_2] 36 (0, 0)) (by (with_reducible repeat (first | refine z4q ?_ _ | refine z6q ?_ | refine z5q ?_ _)); exact BK353.out)) : gb353 ≠ gb359))
         have n7_ := Aside0.mk ((by rw [hg]; exact Nat.ne_of_gt (z21q (g := gb353) (o := .cells #[.int .i64 a1_0, .int .i64 a1_1, .int .i64 a1_2] 36 (0, 0)) (by (with_reducible repeat (first | refine z4q ?_ _ | refine z6q ?_ | refine z5q ?_ _)); exact BK353.out)) : gb359 ≠ gb353))
         have n8_ := Aside0.mk ((by rw [hg]; exact Nat.ne_of_lt (z21q (g := gb354) (o := .cells #[.int .i64 0, .int .i64 0, .int .i64 0] 36 (0, 0)) (by (with_reducible repeat (first | refine z4q ?_ _ | refine z6q ?_ | refine z5q ?_ _)); exact BK354.out)) : gb354 ≠ gb359))
         have n9_ := Aside0.mk ((by rw [hg]; exact Nat.ne_of_gt (z21q (g := gb354) (o := .cells #[.int .i64 0, .int .i64 0, .int .i64 0] 36 (0, 0)) (by (with_reducible repeat (first | refine z4q ?_ _ | refine z6q ?_ | refine z5q ?_ _)); exact BK354.out)) : gb359 ≠ gb354))
         clear BK353
         clear BK354
         clear HB
         have BK353 := n0_
         have BK354 := n1_
         have HB := n2_
         have BK359 := n3_
         have GW359 := n4_
         have GE359 := n5_
         have NB353_359 := n6_
         have NB359_353 := n7_
         have NB354_359 := n8_
         have NB359_354 := n9_
         clear n0_ n1_ n2_ n3_ n4_ n5_ n6_ n7_ n8_ n9_
         clear hb hbox hg
         refine hK.out _ _ ⟨(z7q BK353.out 0).trans rfl, (z7q BK353.out 1).trans rfl, (z7q BK353.out 2).trans rfl⟩ (fun hHeld => ?_)
         clear hK K
         refine norm_ (a' := ?_) ?_ ?_
         rotate_left
         ·show Act.put _ (some 10) _ = _
          simp only [Act.put, setIfInBounds_toArray, set_cons_zero, set_cons_succ, i64_w, i32_w]
          rfl
         refine one_ (i := 3) (N := some 41) bt11_12 rfl rfl (one_of HT_.out (by kernel_rfl)) (by decide) (fun K hK => ?_)
         refine goes_ Tryd.func59 (by kernel_rfl) rfl #[.int .i64 (wrap64 ((wrap64 ((wrap64 ((wrap64 (a1_0 * 12)) + a1_1)) - 1)) + a2)), .int .i64 12] (by rfl) rfl rfl (by (try simp only [map_toArray, map_cons, map_nil]); first | done | rfl | (simp only [length_drop, length_take]; rfl)) ?_
         with_reducible refine (spec_l2Mod.calls (wrap64 ((wrap64 ((wrap64 ((wrap64 (a1_0 * 12)) + a1_1)) - 1)) + a2)) 12 t358 _ A17.out).mono ?_
         rintro e w' ⟨rfl, ⟨nd, rfl⟩⟩
         refine ⟨_, rfl, ?_⟩
         refine hK.out _ _ ⟨(z7q BK353.out 0).trans rfl, (z7q BK353.out 1).trans rfl, (z7q BK353.out 2).trans rfl⟩ (fun hHeld => ?_)
         clear hK K
         refine norm_ (a' := ?_) ?_ ?_
         rotate_left
         ·show Act.put _ (some 41) _ = _
          simp only [Act.put, setIfInBounds_toArray, set_cons_zero, set_cons_succ, i64_w, i32_w]
          rfl
         refine pure_ (i := 4) (N := some 42) (v := ?_) (a' := ?_) bt11_13 rfl rfl (z10q HT_.out (by kernel_rfl)) (fun _ _ _ h => h) (Or.inl ⟨by rfl, ?_⟩) ?_ ?_
         rotate_left
         ·intro w'
          go_simp
          with_reducible rfl
         rotate_left
         ·simp only [Act.put, setIfInBounds_toArray, set_cons_zero, set_cons_succ, i64_w, i32_w]
          rfl
         refine pure_ (i := 7) (N := some 45) (v := ?_) (a' := ?_) bt11_5 rfl rfl (z10q HT_.out (by kernel_rfl)) (fun _ _ _ h => h) (Or.inl ⟨by rfl, ?_⟩) ?_ ?_
         rotate_left
         ·intro w'
          go_simp
          with_reducible rfl
         rotate_left
         ·simp only [Act.put, setIfInBounds_toArray, set_cons_zero, set_cons_succ, i64_w, i32_w]
          rfl
         exact norm_ (by simp only [putAll, Act.put, setIfInBounds_toArray, set_cons_zero, set_cons_succ]) (hCont (gb359) _ ⟨hHeld, (by (with_reducible repeat (first | refine z4q ?_ _ | refine z6q ?_ | refine z5q ?_ _)); exact BK353.out), (by (with_reducible repeat (first | refine z4q ?_ _ | refine z6q ?_ | refine z5q ?_ _)); exact BK354.out), (by (with_reducible repeat (first | refine z4q ?_ _ | refine z6q ?_ | refine z5q ?_ _)); exact BK359.out), GW359.out, GE359.out, NB353_359.out, NB359_353.out, NB354_359.out, NB359_354.out, (by repeat (first | (with_reducible first | exact HB.out | apply z2q | apply z0q | apply z1q | refine z3q ?_ GE353.out | refine z3q ?_ GE354.out | refine z3q ?_ GE359.out) | exact HB.out))⟩)
       ·skip
        refine box_step ?hg (N := 10) ?hd (cs := #[.int .i64 0, .int .i64 0, .int .i64 0]) (t := 36) ?hr ?_; (case hd => rfl); (case hg => rfl); (case hr => first | (go_simp; done) | (go_simp; rfl))
        intro gb359 hg w39 hbox hb
        have n0_ := Aside0.mk (z13q (g := gb353) (o := .cells #[.int .i64 a1_0, .int .i64 a1_1, .int .i64 a1_2] 36 (0, 0)) (by (with_reducible repeat (first | refine z4q ?_ _ | refine z6q ?_ | refine z5q ?_ _)); exact BK353.out) hb)
        have n1_ := Aside0.mk (z13q (g := gb354) (o := .cells #[.int .i64 0, .int .i64 0, .int .i64 0] 36 (0, 0)) (by (with_reducible repeat (first | refine z4q ?_ _ | refine z6q ?_ | refine z5q ?_ _)); exact BK354.out) hb)
        have n2_ := Aside0.mk (z11q (by repeat (first | (with_reducible first | exact HB.out | apply z2q | apply z0q | apply z1q | refine z3q ?_ GE353.out | refine z3q ?_ GE354.out) | exact HB.out)) hb)
        have n3_ := Aside0.mk (hbox)
        have n4_ := Aside0.mk ((by rw [hg]; exact (z12q (by repeat (first | (with_reducible first | exact HB.out | apply z2q | apply z0q | apply z1q | refine z3q ?_ GE353.out | refine z3q ?_ GE354.out) | exact HB.out))) : w.heap.size ≤ gb359))
        have n5_ := Aside0.mk ((by rw [hg]; exact (z12q (by repeat (first | (with_reducible first | exact HB.out | apply z2q | apply z0q | apply z1q | refine z3q ?_ GE353.out | refine z3q ?_ GE354.out) | exact HB.out))) : w.heap.size ≤ gb359))
        have n6_ := Aside0.mk ((by rw [hg]; exact Nat.ne_of_lt (z21q (g := gb353) (o := .cells #[.int .i64 a1_0, .int .i64 a1_1, .int .i64 a1_2] 36 (0, 0)) (by (with_reducible repeat (first | refine z4q ?_ _ | refine z6q ?_ | refine z5q ?_ _)); exact BK353.out)) : gb353 ≠ gb359))
        have n7_ := Aside0.mk ((by rw [hg]; exact Nat.ne_of_gt (z21q (g := gb353) (o := .cells #[.int .i64 a1_0, .int .i64 a1_1, .int .i64 a1_2] 36 (0, 0)) (by (with_reducible repeat (first | refine z4q ?_ _ | refine z6q ?_ | refine z5q ?_ _)); exact BK353.out)) : gb359 ≠ gb353))
        have n8_ := Aside0.mk ((by rw [hg]; exact Nat.ne_of_lt (z21q (g := gb354) (o := .cells #[.int .i64 0, .int .i64 0, .int .i64 0] 36 (0, 0)) (by (with_reducible repeat (first | refine z4q ?_ _ | refine z6q ?_ | refine z5q ?_ _)); exact BK354.out)) : gb354 ≠ gb359))
        have n9_ := Aside0.mk ((by rw [hg]; exact Nat.ne_of_gt (z21q (g := gb354) (o := .cells #[.int .i64 0, .int .i64 0, .int .i64 0] 36 (0, 0)) (by (with_reducible repeat (first | refine z4q ?_ _ | refine z6q ?_ | refine z5q ?_ _)); exact BK354.out)) : gb359 ≠ gb354))
        clear BK353
        clear BK354
        clear HB
        have BK353 := n0_
        have BK354 := n1_
        have HB := n2_
        have BK359 := n3_
        have GW359 := n4_
        have GE359 := n5_
        have NB353_359 := n6_
        have NB359_353 := n7_
        have NB354_359 := n8_
        have NB359_354 := n9_
        clear n0_ n1_ n2_ n3_ n4_ n5_ n6_ n7_ n8_ n9_
        clear hb hbox hg
        refine hK.out _ _ ⟨(z7q BK353.out 0).trans rfl, (z7q BK353.out 1).trans rfl, (z7q BK353.out 2).trans rfl⟩ (fun hHeld => ?_)
        clear hK K
        refine norm_ (a' := ?_) ?_ ?_
        rotate_left
        ·show Act.put _ (some 10) _ = _
         simp only [Act.put, setIfInBounds_toArray, set_cons_zero, set_cons_succ, i64_w, i32_w]
         rfl
        refine one_ (i := 1) (N := some 39) bt11_9 rfl rfl (one_of HT_.out (by kernel_rfl)) (by decide) (fun K hK => ?_)
        refine goes_ Tryd.func75 (by kernel_rfl) rfl #[.int .i64 (wrap64 ((wrap64 ((wrap64 ((wrap64 (a1_0 * 12)) + a1_1)) - 1)) + a2)), .int .i64 12] (by rfl) rfl rfl (by (try simp only [map_toArray, map_cons, map_nil]); first | done | rfl | (simp only [length_drop, length_take]; rfl)) ?_
        with_reducible refine (spec_l2Floor.calls (wrap64 ((wrap64 ((wrap64 ((wrap64 (a1_0 * 12)) + a1_1)) - 1)) + a2)) 12 t357 _ A16.out).mono ?_
        rintro e w' ⟨rfl, ⟨nd, rfl⟩⟩
        refine ⟨_, rfl, ?_⟩
        refine hK.out _ _ ⟨(z7q BK353.out 0).trans rfl, (z7q BK353.out 1).trans rfl, (z7q BK353.out 2).trans rfl⟩ (fun hHeld => ?_)
        clear hK K
        refine norm_ (a' := ?_) ?_ ?_
        rotate_left
        ·show Act.put _ (some 39) _ = _
         simp only [Act.put, setIfInBounds_toArray, set_cons_zero, set_cons_succ, i64_w, i32_w]
         rfl
        refine one_ (i := 3) (N := some 41) bt11_12 rfl rfl (one_of HT_.out (by kernel_rfl)) (by decide) (fun K hK => ?_)
        refine goes_ Tryd.func59 (by kernel_rfl) rfl #[.int .i64 (wrap64 ((wrap64 ((wrap64 ((wrap64 (a1_0 * 12)) + a1_1)) - 1)) + a2)), .int .i64 12] (by rfl) rfl rfl (by (try simp only [map_toArray, map_cons, map_nil]); first | done | rfl | (simp only [length_drop, length_take]; rfl)) ?_
        with_reducible refine (spec_l2Mod.calls (wrap64 ((wrap64 ((wrap64 ((wrap64 (a1_0 * 12)) + a1_1)) - 1)) + a2)) 12 t358 _ A17.out).mono ?_
        rintro e w' ⟨rfl, ⟨nd, rfl⟩⟩
        refine ⟨_, rfl, ?_⟩
        refine hK.out _ _ ⟨(z7q BK353.out 0).trans rfl, (z7q BK353.out 1).trans rfl, (z7q BK353.out 2).trans rfl⟩ (fun hHeld => ?_)
        clear hK K
        refine norm_ (a' := ?_) ?_ ?_
        rotate_left
        ·show Act.put _ (some 41) _ = _
         simp only [Act.put, setIfInBounds_toArray, set_cons_zero, set_cons_succ, i64_w, i32_w]
         rfl
        refine pure_ (i := 4) (N := some 42) (v := ?_) (a' := ?_) bt11_13 rfl rfl (z10q HT_.out (by kernel_rfl)) (fun _ _ _ h => h) (Or.inl ⟨by rfl, ?_⟩) ?_ ?_
        rotate_left
        ·intro w'
         go_simp
         with_reducible rfl
        rotate_left
        ·simp only [Act.put, setIfInBounds_toArray, set_cons_zero, set_cons_succ, i64_w, i32_w]
         rfl
        refine pure_ (i := 7) (N := some 45) (v := ?_) (a' := ?_) bt11_5 rfl rfl (z10q HT_.out (by kernel_rfl)) (fun _ _ _ h => h) (Or.inl ⟨by rfl, ?_⟩) ?_ ?_
        rotate_left
        ·intro w'
         go_simp
         with_reducible rfl
        rotate_left
        ·simp only [Act.put, setIfInBounds_toArray, set_cons_zero, set_cons_succ, i64_w, i32_w]
         rfl
        exact norm_ (by simp only [putAll, Act.put, setIfInBounds_toArray, set_cons_zero, set_cons_succ]) (hCont (gb359) _ ⟨hHeld, (by (with_reducible repeat (first | refine z4q ?_ _ | refine z6q ?_ | refine z5q ?_ _)); exact BK353.out), (by (with_reducible repeat (first | refine z4q ?_ _ | refine z6q ?_ | refine z5q ?_ _)); exact BK354.out), (by (with_reducible repeat (first | refine z4q ?_ _ | refine z6q ?_ | refine z5q ?_ _)); exact BK359.out), GW359.out, GE359.out, NB353_359.out, NB359_353.out, NB354_359.out, NB359_354.out, (by repeat (first | (with_reducible first | exact HB.out | apply z2q | apply z0q | apply z1q | refine z3q ?_ GE353.out | refine z3q ?_ GE354.out | refine z3q ?_ GE359.out) | exact HB.out))⟩)
      rintro gb359 w40 ⟨hS_, h0_, h1_, h2_, h3_, h4_, h5_, h6_, h7_, h8_, h9_⟩
      have n0_ : Aside0 (w40.heap[gb353]? = some (.cells #[.int .i64 a1_0, .int .i64 a1_1, .int .i64 a1_2] 36 (0, 0))) := ⟨h0_⟩
      have n1_ : Aside0 (w40.heap[gb354]? = some (.cells #[.int .i64 0, .int .i64 0, .int .i64 0] 36 (0, 0))) := ⟨h1_⟩
      have n2_ : Aside0 (w40.heap[gb359]? = some (.cells #[.int .i64 0, .int .i64 0, .int .i64 0] 36 (0, 0))) := ⟨h2_⟩
      have n3_ : Aside0 (w.heap.size ≤ gb359) := ⟨h3_⟩
      have n4_ : Aside0 (w.heap.size ≤ gb359) := ⟨h4_⟩
      have n5_ : Aside0 (gb353 ≠ gb359) := ⟨h5_⟩
      have n6_ : Aside0 (gb359 ≠ gb353) := ⟨h6_⟩
      have n7_ : Aside0 (gb354 ≠ gb359) := ⟨h7_⟩
      have n8_ : Aside0 (gb359 ≠ gb354) := ⟨h8_⟩
      have n9_ : Aside0 (Below w.heap.size w w40) := ⟨h9_⟩
      clear BK353
      clear BK354
      clear HB
      clear h0_ h1_ h2_ h3_ h4_ h5_ h6_ h7_ h8_ h9_
      have BK353 := n0_
      have BK354 := n1_
      have BK359 := n2_
      have GW359 := n3_
      have GE359 := n4_
      have NB353_359 := n5_
      have NB359_353 := n6_
      have NB354_359 := n7_
      have NB359_354 := n8_
      have HB := n9_
      clear n0_ n1_ n2_ n3_ n4_ n5_ n6_ n7_ n8_ n9_
      have hHeld : w40.cell? ⟨gb353, 0, none⟩ = some (.int .i64 a1_0) ∧ w40.cell? ⟨gb353, 1, none⟩ = some (.int .i64 a1_1) ∧ w40.cell? ⟨gb353, 2, none⟩ = some (.int .i64 a1_2) := hS_
      refine norm_ (a' := ?_) ?_ ?_
      rotate_left
      ·simp only [putAll, Act.put, setIfInBounds_toArray, set_cons_zero, set_cons_succ]
       rfl
      refine one_ (i := 9) (N := none) bt11_14 rfl rfl (one_of HT_.out (by kernel_rfl)) (by decide) (fun K hK => ?_)
      have hs41 : w40.cell? ⟨gb359, 0, none⟩ = some (.int .i64 0) := (z7q BK359.out 0).trans rfl
      have hfs41 := z8q BK359.out 0
      have hns41_0 := NB353_359.out
      have hns41_1 := NB354_359.out
      have hms41_0 := NB359_353.out
      have hms41_1 := NB359_354.out
      have hs42 : w40.cell? ⟨gb359, 1, none⟩ = some (.int .i64 0) := (z7q BK359.out 1).trans rfl
      have hfs42 := z8q BK359.out 1
      have hns42_0 := NB353_359.out
      have hns42_1 := NB354_359.out
      have hms42_0 := NB359_353.out
      have hms42_1 := NB359_354.out
      have hs43 : w40.cell? ⟨gb359, 2, none⟩ = some (.int .i64 0) := (z7q BK359.out 2).trans rfl
      have hfs43 := z8q BK359.out 2
      have hns43_0 := NB353_359.out
      have hns43_1 := NB354_359.out
      have hms43_0 := NB359_353.out
      have hms43_1 := NB359_354.out
      refine skip_ (w1 := ?_) (by rfl) rfl ?_ ?_
      rotate_left
      ·go_simp
       rfl
      refine hK.out _ _ ⟨((z24q (p := ⟨gb359, _, none⟩) NB353_359.out _).trans (((z24q (p := ⟨gb359, _, none⟩) NB353_359.out _).trans (((z24q (p := ⟨gb359, _, none⟩) NB353_359.out _).trans (hHeld.1)))))), ((z24q (p := ⟨gb359, _, none⟩) NB353_359.out _).trans (((z24q (p := ⟨gb359, _, none⟩) NB353_359.out _).trans (((z24q (p := ⟨gb359, _, none⟩) NB353_359.out _).trans (hHeld.2.1)))))), ((z24q (p := ⟨gb359, _, none⟩) NB353_359.out _).trans (((z24q (p := ⟨gb359, _, none⟩) NB353_359.out _).trans (((z24q (p := ⟨gb359, _, none⟩) NB353_359.out _).trans (hHeld.2.2))))))⟩ (fun hHeld => ?_)
      clear hK K
      refine done_ (done_of HT_.out (by kernel_rfl)) ?_
      have hnb44 := NB359_353.out
      have hnc44 := NB353_359.out
      have hnb45 := NB359_354.out
      have hnc45 := NB354_359.out
      have hcz46_0 : w40.cell? ⟨gb359, 0, none⟩ = some (.int .i64 0) := (z7q BK359.out 0).trans rfl
      have hcz46_1 : w40.cell? ⟨gb359, 1, none⟩ = some (.int .i64 0) := (z7q BK359.out 1).trans rfl
      have hcz46_2 : w40.cell? ⟨gb359, 2, none⟩ = some (.int .i64 0) := (z7q BK359.out 2).trans rfl
      have hfz46_0 := z8q BK359.out 0
      have hfz46_1 := z8q BK359.out 1
      have hfz46_2 := z8q BK359.out 2
      try go_wp2_with (first | ((with_reducible refine z9q (f := 76) rfl ?_); refine z17q (some 48) rfl rfl Tryd.func76 (by kernel_rfl) rfl #[.int .i64 t357] rfl (by (try simp only [map_toArray, map_cons, map_nil]); first | done | rfl | (simp only [length_drop, length_take]; rfl)) ?_; (with_reducible refine (spec_l2Year.calls t357 true _ A18.out).mono ?_); rintro e w' ⟨rfl, ⟨nd, rfl⟩⟩; refine ⟨_, rfl, ?_⟩) | ((with_reducible refine z9q (f := 77) rfl ?_); refine z17q (some 56) rfl rfl Tryd.func77 (by kernel_rfl) rfl #[.int .i64 a0, .int .i64 t357, .int .i64 (wrap64 (1 + t358))] rfl (by (try simp only [map_toArray, map_cons, map_nil]); first | done | rfl | (simp only [length_drop, length_take]; rfl)) ?_; (with_reducible refine (spec_l2MonthDays.calls a0 t357 (wrap64 (1 + t358)) t361 _ A20.out).mono ?_); rintro e w47 ⟨rfl, hb⟩; refine ⟨_, rfl, ?_⟩; have n0_ := Aside0.mk (z13q (g := gb353) (o := .cells #[.int .i64 a1_0, .int .i64 a1_1, .int .i64 a1_2] 36 (0, 0)) (by (with_reducible repeat (first | refine z4q ?_ _ | refine z6q ?_ | refine z5q ?_ _)); refine z18q ?_ NB353_359.out _; (with_reducible repeat (first | refine z4q ?_ _ | refine z6q ?_ | refine z5q ?_ _)); refine z18q ?_ NB353_359.out _; (with_reducible repeat (first | refine z4q ?_ _ | refine z6q ?_ | refine z5q ?_ _)); refine z18q ?_ NB353_359.out _; (with_reducible repeat (first | refine z4q ?_ _ | refine z6q ?_ | refine z5q ?_ _)); exact BK353.out) hb); have n1_ := Aside0.mk (z13q (g := gb354) (o := .cells #[.int .i64 0, .int .i64 0, .int .i64 0] 36 (0, 0)) (by (with_reducible repeat (first | refine z4q ?_ _ | refine z6q ?_ | refine z5q ?_ _)); refine z18q ?_ NB354_359.out _; (with_reducible repeat (first | refine z4q ?_ _ | refine z6q ?_ | refine z5q ?_ _)); refine z18q ?_ NB354_359.out _; (with_reducible repeat (first | refine z4q ?_ _ | refine z6q ?_ | refine z5q ?_ _)); refine z18q ?_ NB354_359.out _; (with_reducible repeat (first | refine z4q ?_ _ | refine z6q ?_ | refine z5q ?_ _)); exact BK354.out) hb); have n2_ := Aside0.mk (z13q (g := gb359) (o := .cells #[.int .i64 t357, .int .i64 (wrap64 (1 + t358)), .int .i64 a1_2] 36 (0, 0)) (by (with_reducible repeat (first | refine z4q ?_ _ | refine z6q ?_ | refine z5q ?_ _)); refine z14q (cs := #[.int .i64 t357, .int .i64 (wrap64 (1 + t358)), .int .i64 0]) ?_ 2 _ rfl; (with_reducible repeat (first | refine z4q ?_ _ | refine z6q ?_ | refine z5q ?_ _)); refine z14q (cs := #[.int .i64 t357, .int .i64 0, .int .i64 0]) ?_ 1 _ rfl; (with_reducible repeat (first | refine z4q ?_ _ | refine z6q ?_ | refine z5q ?_ _)); refine z14q (cs := #[.int .i64 0, .int .i64 0, .int .i64 0]) ?_ 0 _ rfl; (with_reducible repeat (first | refine z4q ?_ _ | refine z6q ?_ | refine z5q ?_ _)); exact BK359.out) hb); have n3_ := Aside0.mk (z11q (by repeat (first | (with_reducible first | exact HB.out | apply z2q | apply z0q | apply z1q | refine z3q ?_ GE353.out | refine z3q ?_ GE354.out | refine z3q ?_ GE359.out) | exact HB.out)) hb); clear BK353; clear BK354; clear BK359; clear HB; have BK353 := n0_; have BK354 := n1_; have BK359 := n2_; have HB := n3_; clear n0_ n1_ n2_ n3_; (try clear hb); (try clear hb2); (try clear hk); (try clear hi); have hcz48_0 : w47.cell? ⟨gb359, 0, none⟩ = some (.int .i64 t357) := (z7q BK359.out 0).trans rfl; have hcz48_1 : w47.cell? ⟨gb359, 1, none⟩ = some (.int .i64 (wrap64 (1 + t358))) := (z7q BK359.out 1).trans rfl; have hcz48_2 : w47.cell? ⟨gb359, 2, none⟩ = some (.int .i64 a1_2) := (z7q BK359.out 2).trans rfl; have hfz48_0 := z8q BK359.out 0; have hfz48_1 := z8q BK359.out 1; have hfz48_2 := z8q BK359.out 2; have hcz49_0 : w47.cell? ⟨gb354, 0, none⟩ = some (.int .i64 0) := (z7q BK354.out 0).trans rfl; have hcz49_1 : w47.cell? ⟨gb354, 1, none⟩ = some (.int .i64 0) := (z7q BK354.out 1).trans rfl; have hcz49_2 : w47.cell? ⟨gb354, 2, none⟩ = some (.int .i64 0) := (z7q BK354.out 2).trans rfl; have hfz49_0 := z8q BK354.out 0; have hfz49_1 := z8q BK354.out 1; have hfz49_2 := z8q BK354.out 2))
      refine bodyPost_ret (results_cell_row rfl _ _ gb354 36 #[.int .i64 t357, .int .i64 (wrap64 (1 + t358)), .int .i64 a1_2] (0, 0) _ rfl (by (with_reducible repeat (first | refine z4q ?_ _ | refine z6q ?_ | refine z5q ?_ _)); refine z14q (cs := #[.int .i64 t357, .int .i64 (wrap64 (1 + t358)), .int .i64 0]) ?_ 2 _ rfl; (with_reducible repeat (first | refine z4q ?_ _ | refine z6q ?_ | refine z5q ?_ _)); refine z14q (cs := #[.int .i64 t357, .int .i64 0, .int .i64 0]) ?_ 1 _ rfl; (with_reducible repeat (first | refine z4q ?_ _ | refine z6q ?_ | refine z5q ?_ _)); refine z14q (cs := #[.int .i64 0, .int .i64 0, .int .i64 0]) ?_ 0 _ rfl; (with_reducible repeat (first | refine z4q ?_ _ | refine z6q ?_ | refine z5q ?_ _)); exact BK354.out) Tryd.underlying36 rfl (by kernel_rfl)) rfl ?_
      exact ⟨by first | rfl | (simp [errW_none, errW_some] <;> rfl) | (simp [*, errW_none, errW_some] <;> rfl), by repeat (first | (with_reducible first | exact HB.out | apply z2q | apply z0q | apply z1q | refine z3q ?_ GE353.out | refine z3q ?_ GE354.out | refine z3q ?_ GE359.out) | exact HB.out)⟩
    ·replace c19 := Bool.eq_false_iff.mpr c19
     subst c19
     have H1 : (some (0, 0, 0)) = some (r1, r2, r3) := by rw [if_neg (show ¬ (false = true) by decide)] at H; exact H
     clear H
     have H := H1
     clear H1
     simp only [Option.some.injEq, Prod.mk.injEq] at H
     obtain ⟨rfl, rfl, rfl⟩ := H
     have hnb50 := NB353_354.out
     have hnc50 := NB354_353.out
     have hcz51_0 : wc.cell? ⟨gb353, 0, none⟩ = some (.int .i64 a1_0) := (z7q BK353.out 0).trans rfl
     have hcz51_1 : wc.cell? ⟨gb353, 1, none⟩ = some (.int .i64 a1_1) := (z7q BK353.out 1).trans rfl
     have hcz51_2 : wc.cell? ⟨gb353, 2, none⟩ = some (.int .i64 a1_2) := (z7q BK353.out 2).trans rfl
     have hfz51_0 := z8q BK353.out 0
     have hfz51_1 := z8q BK353.out 1
     have hfz51_2 := z8q BK353.out 2
     try go_wp2
     have n0_ := Aside0.mk (z6q BK353.out)
     have n1_ := Aside0.mk (z6q BK354.out)
     have n2_ := Aside0.mk (z1q HB.out)
     clear BK353
     clear BK354
     clear HB
     have BK353 := n0_
     have BK354 := n1_
     have HB := n2_
     clear n0_ n1_ n2_
     refine start_ (n := 10) (S := fun w' => w'.cell? ⟨gb353, 0, none⟩ = some (.int .i64 a1_0) ∧ w'.cell? ⟨gb353, 1, none⟩ = some (.int .i64 a1_1) ∧ w'.cell? ⟨gb353, 2, none⟩ = some (.int .i64 a1_2)) (ds := []) bt11_0 (by kernel_rfl) rfl rfl ⟨(z7q BK353.out 0).trans rfl, (z7q BK353.out 1).trans rfl, (z7q BK353.out 2).trans rfl⟩ (fun hHeld => ?_); refine with_tabW spec_AddMonths.tab5 spec_AddMonths.bits5 (fun HT_ HW_ => ?_)
     generalize wc.drew = w52 at BK353 BK354 HB hHeld ⊢
     refine pure_ (i := 0) (N := some 38) (v := ?_) (a' := ?_) bt11_1 rfl rfl (z10q HT_.out (by kernel_rfl)) (fun _ _ _ h => h) (Or.inl ⟨by rfl, ?_⟩) ?_ ?_
     rotate_left
     ·intro w'
      go_simp
      with_reducible rfl
     rotate_left
     ·simp only [Act.put, setIfInBounds_toArray, set_cons_zero, set_cons_succ, i64_w, i32_w]
      rfl
     refine pure_ (i := 2) (N := some 40) (v := ?_) (a' := ?_) bt11_2 rfl rfl (z10q HT_.out (by kernel_rfl)) (fun _ _ _ h => h) (Or.inl ⟨by rfl, ?_⟩) ?_ ?_
     rotate_left
     ·intro w'
      go_simp
      with_reducible rfl
     rotate_left
     ·simp only [Act.put, setIfInBounds_toArray, set_cons_zero, set_cons_succ, i64_w, i32_w]
      rfl
     refine pure_ (i := 5) (N := some 43) (v := ?_) (a' := ?_) bt11_3 rfl rfl (z10q HT_.out (by kernel_rfl)) (fun _ _ _ h => h) (Or.inl ⟨by rfl, ?_⟩) ?_ ?_
     rotate_left
     ·intro w'
      go_simp
      with_reducible rfl
     rotate_left
     ·simp only [Act.put, setIfInBounds_toArray, set_cons_zero, set_cons_succ, i64_w, i32_w]
      rfl
     refine take_ (i := 6) (N := some 44) (v := ?_) (a' := ?_) bt11_4 rfl rfl (z23q HT_.out HW_.out (by kernel_rfl)) (fun _ _ _ h => h) (Or.inl ⟨by rfl, ?_⟩) hHeld ?_ ?_
     rotate_left
     ·rintro w' ⟨s0, s1, s2⟩
      go_simp
      with_reducible rfl
     rotate_left
     ·simp only [Act.put, setIfInBounds_toArray, set_cons_zero, set_cons_succ, i64_w, i32_w]
      rfl
     refine join_ (σ := Nat) 1 bt11_5 (fun s_ => [(39, .int .i64 t357), (41, .int .i64 t358), (10, .pointer (some ⟨s_, 0, none⟩)), (42, .int .i64 (wrap64 (1 + t358))), (45, .agg #[.int .i64 t357, .int .i64 (wrap64 (1 + t358)), .int .i64 a1_2])]) (fun s_ w' => (w'.cell? ⟨gb353, 0, none⟩ = some (.int .i64 a1_0) ∧ w'.cell? ⟨gb353, 1, none⟩ = some (.int .i64 a1_1) ∧ w'.cell? ⟨gb353, 2, none⟩ = some (.int .i64 a1_2)) ∧ (w'.heap[gb353]? = some (.cells #[.int .i64 a1_0, .int .i64 a1_1, .int .i64 a1_2] 36 (0, 0))) ∧ (w'.heap[gb354]? = some (.cells #[.int .i64 0, .int .i64 0, .int .i64 0] 36 (0, 0))) ∧ (w'.heap[s_]? = some (.cells #[.int .i64 0, .int .i64 0, .int .i64 0] 36 (0, 0))) ∧ (w.heap.size ≤ s_) ∧ (w.heap.size ≤ s_) ∧ (gb353 ≠ s_) ∧ (s_ ≠ gb353) ∧ (gb354 ≠ s_) ∧ (s_ ≠ gb354) ∧ (Below w.heap.size w w')) ?_ ?_
     rotate_left
     ·intro hCont
      refine two_ (i := 1) (j := 8) (Ni := some 39) (Nj := some 10) bt11_6 bt11_7 rfl rfl rfl rfl (two_of HT_.out (by kernel_rfl)) (by decide) (by decide) (fun K hK => ?_) (fun K hK => ?_)
      ·skip
       refine goes_ Tryd.func75 (by kernel_rfl) rfl #[.int .i64 (wrap64 ((wrap64 ((wrap64 ((wrap64 (a1_0 * 12)) + a1_1)) - 1)) + a2)), .int .i64 12] (by rfl) rfl rfl (by (try simp only [map_toArray, map_cons, map_nil]); first | done | rfl | (simp only [length_drop, length_take]; rfl)) ?_
       with_reducible refine (spec_l2Floor.calls (wrap64 ((wrap64 ((wrap64 ((wrap64 (a1_0 * 12)) + a1_1)) - 1)) + a2)) 12 t357 _ A16.out).mono ?_
       rintro e w' ⟨rfl, ⟨nd, rfl⟩⟩
       refine ⟨_, rfl, ?_⟩
       refine hK.out _ _ ⟨(z7q BK353.out 0).trans rfl, (z7q BK353.out 1).trans rfl, (z7q BK353.out 2).trans rfl⟩ (fun hHeld => ?_)
       clear hK K
       refine norm_ (a' := ?_) ?_ ?_
       rotate_left
       ·show Act.put _ (some 39) _ = _
        simp only [Act.put, setIfInBounds_toArray, set_cons_zero, set_cons_succ, i64_w, i32_w]
        rfl
       refine two_ (i := 3) (j := 8) (Ni := some 41) (Nj := some 10) bt11_8 bt11_9 rfl rfl rfl rfl (two_of HT_.out (by kernel_rfl)) (by decide) (by decide) (fun K hK => ?_) (fun K hK => ?_)
       ·skip
        refine goes_ Tryd.func59 (by kernel_rfl) rfl #[.int .i64 (wrap64 ((wrap64 ((wrap64 ((wrap64 (a1_0 * 12)) + a1_1)) - 1)) + a2)), .int .i64 12] (by rfl) rfl rfl (by (try simp only [map_toArray, map_cons, map_nil]); first | done | rfl | (simp only [length_drop, length_take]; rfl)) ?_
        with_reducible refine (spec_l2Mod.calls (wrap64 ((wrap64 ((wrap64 ((wrap64 (a1_0 * 12)) + a1_1)) - 1)) + a2)) 12 t358 _ A17.out).mono ?_
        rintro e w' ⟨rfl, ⟨nd, rfl⟩⟩
        refine ⟨_, rfl, ?_⟩
        refine hK.out _ _ ⟨(z7q BK353.out 0).trans rfl, (z7q BK353.out 1).trans rfl, (z7q BK353.out 2).trans rfl⟩ (fun hHeld => ?_)
        clear hK K
        refine norm_ (a' := ?_) ?_ ?_
        rotate_left
        ·show Act.put _ (some 41) _ = _
         simp only [Act.put, setIfInBounds_toArray, set_cons_zero, set_cons_succ, i64_w, i32_w]
         rfl
        refine pure_ (i := 4) (N := some 42) (v := ?_) (a' := ?_) bt11_10 rfl rfl (z10q HT_.out (by kernel_rfl)) (fun _ _ _ h => h) (Or.inl ⟨by rfl, ?_⟩) ?_ ?_
        rotate_left
        ·intro w'
         go_simp
         with_reducible rfl
        rotate_left
        ·simp only [Act.put, setIfInBounds_toArray, set_cons_zero, set_cons_succ, i64_w, i32_w]
         rfl
        refine pure_ (i := 7) (N := some 45) (v := ?_) (a' := ?_) bt11_11 rfl rfl (z10q HT_.out (by kernel_rfl)) (fun _ _ _ h => h) (Or.inl ⟨by rfl, ?_⟩) ?_ ?_
        rotate_left
        ·intro w'
         go_simp
         with_reducible rfl
        rotate_left
        ·simp only [Act.put, setIfInBounds_toArray, set_cons_zero, set_cons_succ, i64_w, i32_w]
         rfl
        refine one_ (i := 8) (N := some 10) bt11_5 rfl rfl (one_of HT_.out (by kernel_rfl)) (by decide) (fun K hK => ?_)
        refine box_step ?hg (N := 10) ?hd (cs := #[.int .i64 0, .int .i64 0, .int .i64 0]) (t := 36) ?hr ?_; (case hd => rfl); (case hg => rfl); (case hr => first | (go_simp; done) | (go_simp; rfl))
        intro gb359 hg w53 hbox hb
        have n0_ := Aside0.mk (z13q (g := gb353) (o := .cells #[.int .i64 a1_0, .int .i64 a1_1, .int .i64 a1_2] 36 (0, 0)) (by (with_reducible repeat (first | refine z4q ?_ _ | refine z6q ?_ | refine z5q ?_ _)); exact BK353.out) hb)
        have n1_ := Aside0.mk (z13q (g := gb354) (o := .cells #[.int .i64 0, .int .i64 0, .int .i64 0] 36 (0, 0)) (by (with_reducible repeat (first | refine z4q ?_ _ | refine z6q ?_ | refine z5q ?_ _)); exact BK354.out) hb)
        have n2_ := Aside0.mk (z11q (by repeat (first | (with_reducible first | exact HB.out | apply z2q | apply z0q | apply z1q | refine z3q ?_ GE353.out | refine z3q ?_ GE354.out) | exact HB.out)) hb)
        have n3_ := Aside0.mk (hbox)
        have n4_ := Aside0.mk ((by rw [hg]; exact (z12q (by repeat (first | (with_reducible first | exact HB.out | apply z2q | apply z0q | apply z1q | refine z3q ?_ GE353.out | refine z3q ?_ GE354.out) | exact HB.out))) : w.heap.size ≤ gb359))
        have n5_ := Aside0.mk ((by rw [hg]; exact (z12q (by repeat (first | (with_reducible first | exact HB.out | apply z2q | apply z0q | apply z1q | refine z3q ?_ GE353.out | refine z3q ?_ GE354.out) | exact HB.out))) : w.heap.size ≤ gb359))
        have n6_ := Aside0.mk ((by rw [hg]; exact Nat.ne_of_lt (z21q (g := gb353) (o := .cells #[.int .i64 a1_0, .int .i64 a1_1, .int .i64 a1_2] 36 (0, 0)) (by (with_reducible repeat (first | refine z4q ?_ _ | refine z6q ?_ | refine z5q ?_ _)); exact BK353.out)) : gb353 ≠ gb359))
        have n7_ := Aside0.mk ((by rw [hg]; exact Nat.ne_of_gt (z21q (g := gb353) (o := .cells #[.int .i64 a1_0, .int .i64 a1_1, .int .i64 a1_2] 36 (0, 0)) (by (with_reducible repeat (first | refine z4q ?_ _ | refine z6q ?_ | refine z5q ?_ _)); exact BK353.out)) : gb359 ≠ gb353))
        have n8_ := Aside0.mk ((by rw [hg]; exact Nat.ne_of_lt (z21q (g := gb354) (o := .cells #[.int .i64 0, .int .i64 0, .int .i64 0] 36 (0, 0)) (by (with_reducible repeat (first | refine z4q ?_ _ | refine z6q ?_ | refine z5q ?_ _)); exact BK354.out)) : gb354 ≠ gb359))
        have n9_ := Aside0.mk ((by rw [hg]; exact Nat.ne_of_gt (z21q (g := gb354) (o := .cells #[.int .i64 0, .int .i64 0, .int .i64 0] 36 (0, 0)) (by (with_reducible repeat (first | refine z4q ?_ _ | refine z6q ?_ | refine z5q ?_ _)); exact BK354.out)) : gb359 ≠ gb354))
        clear BK353
        clear BK354
        clear HB
        have BK353 := n0_
        have BK354 := n1_
        have HB := n2_
        have BK359 := n3_
        have GW359 := n4_
        have GE359 := n5_
        have NB353_359 := n6_
        have NB359_353 := n7_
        have NB354_359 := n8_
        have NB359_354 := n9_
        clear n0_ n1_ n2_ n3_ n4_ n5_ n6_ n7_ n8_ n9_
        clear hb hbox hg
        refine hK.out _ _ ⟨(z7q BK353.out 0).trans rfl, (z7q BK353.out 1).trans rfl, (z7q BK353.out 2).trans rfl⟩ (fun hHeld => ?_)
        clear hK K
        refine norm_ (a' := ?_) ?_ ?_
        rotate_left
        ·show Act.put _ (some 10) _ = _
         simp only [Act.put, setIfInBounds_toArray, set_cons_zero, set_cons_succ, i64_w, i32_w]
         rfl
        exact norm_ (by simp only [putAll, Act.put, setIfInBounds_toArray, set_cons_zero, set_cons_succ]) (hCont (gb359) _ ⟨hHeld, (by (with_reducible repeat (first | refine z4q ?_ _ | refine z6q ?_ | refine z5q ?_ _)); exact BK353.out), (by (with_reducible repeat (first | refine z4q ?_ _ | refine z6q ?_ | refine z5q ?_ _)); exact BK354.out), (by (with_reducible repeat (first | refine z4q ?_ _ | refine z6q ?_ | refine z5q ?_ _)); exact BK359.out), GW359.out, GE359.out, NB353_359.out, NB359_353.out, NB354_359.out, NB359_354.out, (by repeat (first | (with_reducible first | exact HB.out | apply z2q | apply z0q | apply z1q | refine z3q ?_ GE353.out | refine z3q ?_ GE354.out | refine z3q ?_ GE359.out) | exact HB.out))⟩)
       ·skip
        refine box_step ?hg (N := 10) ?hd (cs := #[.int .i64 0, .int .i64 0, .int .i64 0]) (t := 36) ?hr ?_; (case hd => rfl); (case hg => rfl); (case hr => first | (go_simp; done) | (go_simp; rfl))
        intro gb359 hg w53 hbox hb
        have n0_ := Aside0.mk (z13q (g := gb353) (o := .cells #[.int .i64 a1_0, .int .i64 a1_1, .int .i64 a1_2] 36 (0, 0)) (by (with_reducible repeat (first | refine z4q ?_ _ | refine z6q ?_ | refine z5q ?_ _)); exact BK353.out) hb)
        have n1_ := Aside0.mk (z13q (g := gb354) (o := .cells #[.int .i64 0, .int .i64 0, .int .i64 0] 36 (0, 0)) (by (with_reducible repeat (first | refine z4q ?_ _ | refine z6q ?_ | refine z5q ?_ _)); exact BK354.out) hb)
        have n2_ := Aside0.mk (z11q (by repeat (first | (with_reducible first | exact HB.out | apply z2q | apply z0q | apply z1q | refine z3q ?_ GE353.out | refine z3q ?_ GE354.out) | exact HB.out)) hb)
        have n3_ := Aside0.mk (hbox)
        have n4_ := Aside0.mk ((by rw [hg]; exact (z12q (by repeat (first | (with_reducible first | exact HB.out | apply z2q | apply z0q | apply z1q | refine z3q ?_ GE353.out | refine z3q ?_ GE354.out) | exact HB.out))) : w.heap.size ≤ gb359))
        have n5_ := Aside0.mk ((by rw [hg]; exact (z12q (by repeat (first | (with_reducible first | exact HB.out | apply z2q | apply z0q | apply z1q | refine z3q ?_ GE353.out | refine z3q ?_ GE354.out) | exact HB.out))) : w.heap.size ≤ gb359))
        have n6_ := Aside0.mk ((by rw [hg]; exact Nat.ne_of_lt (z21q (g := gb353) (o := .cells #[.int .i64 a1_0, .int .i64 a1_1, .int .i64 a1_2] 36 (0, 0)) (by (with_reducible repeat (first | refine z4q ?_ _ | refine z6q ?_ | refine z5q ?_ _)); exact BK353.out)) : gb353 ≠ gb359))
        have n7_ := Aside0.mk ((by rw [hg]; exact Nat.ne_of_gt (z21q (g := gb353) (o := .cells #[.int .i64 a1_0, .int .i64 a1_1, .int .i64 a1_2] 36 (0, 0)) (by (with_reducible repeat (first | refine z4q ?_ _ | refine z6q ?_ | refine z5q ?_ _)); exact BK353.out)) : gb359 ≠ gb353))
        have n8_ := Aside0.mk ((by rw [hg]; exact Nat.ne_of_lt (z21q (g := gb354) (o := .cells #[.int .i64 0, .int .i64 0, .int .i64 0] 36 (0, 0)) (by (with_reducible repeat (first | refine z4q ?_ _ | refine z6q ?_ | refine z5q ?_ _)); exact BK354.out)) : gb354 ≠ gb359))
        have n9_ := Aside0.mk ((by rw [hg]; exact Nat.ne_of_gt (z21q (g := gb354) (o := .cells #[.int .i64 0, .int .i64 0, .int .i64 0] 36 (0, 0)) (by (with_reducible repeat (first | refine z4q ?_ _ | refine z6q ?_ | refine z5q ?_ _)); exact BK354.out)) : gb359 ≠ gb354))
        clear BK353
        clear BK354
        clear HB
        have BK353 := n0_
        have BK354 := n1_
        have HB := n2_
        have BK359 := n3_
        have GW359 := n4_
        have GE359 := n5_
        have NB353_359 := n6_
        have NB359_353 := n7_
        have NB354_359 := n8_
        have NB359_354 := n9_
        clear n0_ n1_ n2_ n3_ n4_ n5_ n6_ n7_ n8_ n9_
        clear hb hbox hg
        refine hK.out _ _ ⟨(z7q BK353.out 0).trans rfl, (z7q BK353.out 1).trans rfl, (z7q BK353.out 2).trans rfl⟩ (fun hHeld => ?_)
        clear hK K
        refine norm_ (a' := ?_) ?_ ?_
        rotate_left
        ·show Act.put _ (some 10) _ = _
         simp only [Act.put, setIfInBounds_toArray, set_cons_zero, set_cons_succ, i64_w, i32_w]
         rfl
        refine one_ (i := 3) (N := some 41) bt11_12 rfl rfl (one_of HT_.out (by kernel_rfl)) (by decide) (fun K hK => ?_)
        refine goes_ Tryd.func59 (by kernel_rfl) rfl #[.int .i64 (wrap64 ((wrap64 ((wrap64 ((wrap64 (a1_0 * 12)) + a1_1)) - 1)) + a2)), .int .i64 12] (by rfl) rfl rfl (by (try simp only [map_toArray, map_cons, map_nil]); first | done | rfl | (simp only [length_drop, length_take]; rfl)) ?_
        with_reducible refine (spec_l2Mod.calls (wrap64 ((wrap64 ((wrap64 ((wrap64 (a1_0 * 12)) + a1_1)) - 1)) + a2)) 12 t358 _ A17.out).mono ?_
        rintro e w' ⟨rfl, ⟨nd, rfl⟩⟩
        refine ⟨_, rfl, ?_⟩
        refine hK.out _ _ ⟨(z7q BK353.out 0).trans rfl, (z7q BK353.out 1).trans rfl, (z7q BK353.out 2).trans rfl⟩ (fun hHeld => ?_)
        clear hK K
        refine norm_ (a' := ?_) ?_ ?_
        rotate_left
        ·show Act.put _ (some 41) _ = _
         simp only [Act.put, setIfInBounds_toArray, set_cons_zero, set_cons_succ, i64_w, i32_w]
         rfl
        refine pure_ (i := 4) (N := some 42) (v := ?_) (a' := ?_) bt11_13 rfl rfl (z10q HT_.out (by kernel_rfl)) (fun _ _ _ h => h) (Or.inl ⟨by rfl, ?_⟩) ?_ ?_
        rotate_left
        ·intro w'
         go_simp
         with_reducible rfl
        rotate_left
        ·simp only [Act.put, setIfInBounds_toArray, set_cons_zero, set_cons_succ, i64_w, i32_w]
         rfl
        refine pure_ (i := 7) (N := some 45) (v := ?_) (a' := ?_) bt11_5 rfl rfl (z10q HT_.out (by kernel_rfl)) (fun _ _ _ h => h) (Or.inl ⟨by rfl, ?_⟩) ?_ ?_
        rotate_left
        ·intro w'
         go_simp
         with_reducible rfl
        rotate_left
        ·simp only [Act.put, setIfInBounds_toArray, set_cons_zero, set_cons_succ, i64_w, i32_w]
         rfl
        exact norm_ (by simp only [putAll, Act.put, setIfInBounds_toArray, set_cons_zero, set_cons_succ]) (hCont (gb359) _ ⟨hHeld, (by (with_reducible repeat (first | refine z4q ?_ _ | refine z6q ?_ | refine z5q ?_ _)); exact BK353.out), (by (with_reducible repeat (first | refine z4q ?_ _ | refine z6q ?_ | refine z5q ?_ _)); exact BK354.out), (by (with_reducible repeat (first | refine z4q ?_ _ | refine z6q ?_ | refine z5q ?_ _)); exact BK359.out), GW359.out, GE359.out, NB353_359.out, NB359_353.out, NB354_359.out, NB359_354.out, (by repeat (first | (with_reducible first | exact HB.out | apply z2q | apply z0q | apply z1q | refine z3q ?_ GE353.out | refine z3q ?_ GE354.out | refine z3q ?_ GE359.out) | exact HB.out))⟩)
      ·skip
       refine box_step ?hg (N := 10) ?hd (cs := #[.int .i64 0, .int .i64 0, .int .i64 0]) (t := 36) ?hr ?_; (case hd => rfl); (case hg => rfl); (case hr => first | (go_simp; done) | (go_simp; rfl))
       intro gb359 hg w53 hbox hb
       have n0_ := Aside0.mk (z13q (g := gb353) (o := .cells #[.int .i64 a1_0, .int .i64 a1_1, .int .i64 a1_2] 36 (0, 0)) (by (with_reducible repeat (first | refine z4q ?_ _ | refine z6q ?_ | refine z5q ?_ _)); exact BK353.out) hb)
       have n1_ := Aside0.mk (z13q (g := gb354) (o := .cells #[.int .i64 0, .int .i64 0, .int .i64 0] 36 (0, 0)) (by (with_reducible repeat (first | refine z4q ?_ _ | refine z6q ?_ | refine z5q ?_ _)); exact BK354.out) hb)
       have n2_ := Aside0.mk (z11q (by repeat (first | (with_reducible first | exact HB.out | apply z2q | apply z0q | apply z1q | refine z3q ?_ GE353.out | refine z3q ?_ GE354.out) | exact HB.out)) hb)
       have n3_ := Aside0.mk (hbox)
       have n4_ := Aside0.mk ((by rw [hg]; exact (z12q (by repeat (first | (with_reducible first | exact HB.out | apply z2q | apply z0q | apply z1q | refine z3q ?_ GE353.out | refine z3q ?_ GE354.out) | exact HB.out))) : w.heap.size ≤ gb359))
       have n5_ := Aside0.mk ((by rw [hg]; exact (z12q (by repeat (first | (with_reducible first | exact HB.out | apply z2q | apply z0q | apply z1q | refine z3q ?_ GE353.out | refine z3q ?_ GE354.out) | exact HB.out))) : w.heap.size ≤ gb359))
       have n6_ := Aside0.mk ((by rw [hg]; exact Nat.ne_of_lt (z21q (g := gb353) (o := .cells #[.int .i64 a1_0, .int .i64 a1_1, .int .i64 a1_2] 36 (0, 0)) (by (with_reducible repeat (first | refine z4q ?_ _ | refine z6q ?_ | refine z5q ?_ _)); exact BK353.out)) : gb353 ≠ gb359))
       have n7_ := Aside0.mk ((by rw [hg]; exact Nat.ne_of_gt (z21q (g := gb353) (o := .cells #[.int .i64 a1_0, .int .i64 a1_1, .int .i64 a1_2] 36 (0, 0)) (by (with_reducible repeat (first | refine z4q ?_ _ | refine z6q ?_ | refine z5q ?_ _)); exact BK353.out)) : gb359 ≠ gb353))
       have n8_ := Aside0.mk ((by rw [hg]; exact Nat.ne_of_lt (z21q (g := gb354) (o := .cells #[.int .i64 0, .int .i64 0, .int .i64 0] 36 (0, 0)) (by (with_reducible repeat (first | refine z4q ?_ _ | refine z6q ?_ | refine z5q ?_ _)); exact BK354.out)) : gb354 ≠ gb359))
       have n9_ := Aside0.mk ((by rw [hg]; exact Nat.ne_of_gt (z21q (g := gb354) (o := .cells #[.int .i64 0, .int .i64 0, .int .i64 0] 36 (0, 0)) (by (with_reducible repeat (first | refine z4q ?_ _ | refine z6q ?_ | refine z5q ?_ _)); exact BK354.out)) : gb359 ≠ gb354))
       clear BK353
       clear BK354
       clear HB
       have BK353 := n0_
       have BK354 := n1_
       have HB := n2_
       have BK359 := n3_
       have GW359 := n4_
       have GE359 := n5_
       have NB353_359 := n6_
       have NB359_353 := n7_
       have NB354_359 := n8_
       have NB359_354 := n9_
       clear n0_ n1_ n2_ n3_ n4_ n5_ n6_ n7_ n8_ n9_
       clear hb hbox hg
       refine hK.out _ _ ⟨(z7q BK353.out 0).trans rfl, (z7q BK353.out 1).trans rfl, (z7q BK353.out 2).trans rfl⟩ (fun hHeld => ?_)
       clear hK K
       refine norm_ (a' := ?_) ?_ ?_
       rotate_left
       ·show Act.put _ (some 10) _ = _
        simp only [Act.put, setIfInBounds_toArray, set_cons_zero, set_cons_succ, i64_w, i32_w]
        rfl
       refine one_ (i := 1) (N := some 39) bt11_9 rfl rfl (one_of HT_.out (by kernel_rfl)) (by decide) (fun K hK => ?_)
       refine goes_ Tryd.func75 (by kernel_rfl) rfl #[.int .i64 (wrap64 ((wrap64 ((wrap64 ((wrap64 (a1_0 * 12)) + a1_1)) - 1)) + a2)), .int .i64 12] (by rfl) rfl rfl (by (try simp only [map_toArray, map_cons, map_nil]); first | done | rfl | (simp only [length_drop, length_take]; rfl)) ?_
       with_reducible refine (spec_l2Floor.calls (wrap64 ((wrap64 ((wrap64 ((wrap64 (a1_0 * 12)) + a1_1)) - 1)) + a2)) 12 t357 _ A16.out).mono ?_
       rintro e w' ⟨rfl, ⟨nd, rfl⟩⟩
       refine ⟨_, rfl, ?_⟩
       refine hK.out _ _ ⟨(z7q BK353.out 0).trans rfl, (z7q BK353.out 1).trans rfl, (z7q BK353.out 2).trans rfl⟩ (fun hHeld => ?_)
       clear hK K
       refine norm_ (a' := ?_) ?_ ?_
       rotate_left
       ·show Act.put _ (some 39) _ = _
        simp only [Act.put, setIfInBounds_toArray, set_cons_zero, set_cons_succ, i64_w, i32_w]
        rfl
       refine one_ (i := 3) (N := some 41) bt11_12 rfl rfl (one_of HT_.out (by kernel_rfl)) (by decide) (fun K hK => ?_)
       refine goes_ Tryd.func59 (by kernel_rfl) rfl #[.int .i64 (wrap64 ((wrap64 ((wrap64 ((wrap64 (a1_0 * 12)) + a1_1)) - 1)) + a2)), .int .i64 12] (by rfl) rfl rfl (by (try simp only [map_toArray, map_cons, map_nil]); first | done | rfl | (simp only [length_drop, length_take]; rfl)) ?_
       with_reducible refine (spec_l2Mod.calls (wrap64 ((wrap64 ((wrap64 ((wrap64 (a1_0 * 12)) + a1_1)) - 1)) + a2)) 12 t358 _ A17.out).mono ?_
       rintro e w' ⟨rfl, ⟨nd, rfl⟩⟩
       refine ⟨_, rfl, ?_⟩
       refine hK.out _ _ ⟨(z7q BK353.out 0).trans rfl, (z7q BK353.out 1).trans rfl, (z7q BK353.out 2).trans rfl⟩ (fun hHeld => ?_)
       clear hK K
       refine norm_ (a' := ?_) ?_ ?_
       rotate_left
       ·show Act.put _ (some 41) _ = _
        simp only [Act.put, setIfInBounds_toArray, set_cons_zero, set_cons_succ, i64_w, i32_w]
        rfl
       refine pure_ (i := 4) (N := some 42) (v := ?_) (a' := ?_) bt11_13 rfl rfl (z10q HT_.out (by kernel_rfl)) (fun _ _ _ h => h) (Or.inl ⟨by rfl, ?_⟩) ?_ ?_
       rotate_left
       ·intro w'
        go_simp
        with_reducible rfl
       rotate_left
       ·simp only [Act.put, setIfInBounds_toArray, set_cons_zero, set_cons_succ, i64_w, i32_w]
        rfl
       refine pure_ (i := 7) (N := some 45) (v := ?_) (a' := ?_) bt11_5 rfl rfl (z10q HT_.out (by kernel_rfl)) (fun _ _ _ h => h) (Or.inl ⟨by rfl, ?_⟩) ?_ ?_
       rotate_left
       ·intro w'
        go_simp
        with_reducible rfl
       rotate_left
       ·simp only [Act.put, setIfInBounds_toArray, set_cons_zero, set_cons_succ, i64_w, i32_w]
        rfl
       exact norm_ (by simp only [putAll, Act.put, setIfInBounds_toArray, set_cons_zero, set_cons_succ]) (hCont (gb359) _ ⟨hHeld, (by (with_reducible repeat (first | refine z4q ?_ _ | refine z6q ?_ | refine z5q ?_ _)); exact BK353.out), (by (with_reducible repeat (first | refine z4q ?_ _ | refine z6q ?_ | refine z5q ?_ _)); exact BK354.out), (by (with_reducible repeat (first | refine z4q ?_ _ | refine z6q ?_ | refine z5q ?_ _)); exact BK359.out), GW359.out, GE359.out, NB353_359.out, NB359_353.out, NB354_359.out, NB359_354.out, (by repeat (first | (with_reducible first | exact HB.out | apply z2q | apply z0q | apply z1q | refine z3q ?_ GE353.out | refine z3q ?_ GE354.out | refine z3q ?_ GE359.out) | exact HB.out))⟩)
     rintro gb359 w54 ⟨hS_, h0_, h1_, h2_, h3_, h4_, h5_, h6_, h7_, h8_, h9_⟩
     have n0_ : Aside0 (w54.heap[gb353]? = some (.cells #[.int .i64 a1_0, .int .i64 a1_1, .int .i64 a1_2] 36 (0, 0))) := ⟨h0_⟩
     have n1_ : Aside0 (w54.heap[gb354]? = some (.cells #[.int .i64 0, .int .i64 0, .int .i64 0] 36 (0, 0))) := ⟨h1_⟩
     have n2_ : Aside0 (w54.heap[gb359]? = some (.cells #[.int .i64 0, .int .i64 0, .int .i64 0] 36 (0, 0))) := ⟨h2_⟩
     have n3_ : Aside0 (w.heap.size ≤ gb359) := ⟨h3_⟩
     have n4_ : Aside0 (w.heap.size ≤ gb359) := ⟨h4_⟩
     have n5_ : Aside0 (gb353 ≠ gb359) := ⟨h5_⟩
     have n6_ : Aside0 (gb359 ≠ gb353) := ⟨h6_⟩
     have n7_ : Aside0 (gb354 ≠ gb359) := ⟨h7_⟩
     have n8_ : Aside0 (gb359 ≠ gb354) := ⟨h8_⟩
     have n9_ : Aside0 (Below w.heap.size w w54) := ⟨h9_⟩
     clear BK353
     clear BK354
     clear HB
     clear h0_ h1_ h2_ h3_ h4_ h5_ h6_ h7_ h8_ h9_
     have BK353 := n0_
     have BK354 := n1_
     have BK359 := n2_
     have GW359 := n3_
     have GE359 := n4_
     have NB353_359 := n5_
     have NB359_353 := n6_
     have NB354_359 := n7_
     have NB359_354 := n8_
     have HB := n9_
     clear n0_ n1_ n2_ n3_ n4_ n5_ n6_ n7_ n8_ n9_
     have hHeld : w54.cell? ⟨gb353, 0, none⟩ = some (.int .i64 a1_0) ∧ w54.cell? ⟨gb353, 1, none⟩ = some (.int .i64 a1_1) ∧ w54.cell? ⟨gb353, 2, none⟩ = some (.int .i64 a1_2) := hS_
     refine norm_ (a' := ?_) ?_ ?_
     rotate_left
     ·simp only [putAll, Act.put, setIfInBounds_toArray, set_cons_zero, set_cons_succ]
      rfl
     refine one_ (i := 9) (N := none) bt11_14 rfl rfl (one_of HT_.out (by kernel_rfl)) (by decide) (fun K hK => ?_)
     have hs55 : w54.cell? ⟨gb359, 0, none⟩ = some (.int .i64 0) := (z7q BK359.out 0).trans rfl
     have hfs55 := z8q BK359.out 0
     have hns55_0 := NB353_359.out
     have hns55_1 := NB354_359.out
     have hms55_0 := NB359_353.out
     have hms55_1 := NB359_354.out
     have hs56 : w54.cell? ⟨gb359, 1, none⟩ = some (.int .i64 0) := (z7q BK359.out 1).trans rfl
     have hfs56 := z8q BK359.out 1
     have hns56_0 := NB353_359.out
     have hns56_1 := NB354_359.out
     have hms56_0 := NB359_353.out
     have hms56_1 := NB359_354.out
     have hs57 : w54.cell? ⟨gb359, 2, none⟩ = some (.int .i64 0) := (z7q BK359.out 2).trans rfl
     have hfs57 := z8q BK359.out 2
     have hns57_0 := NB353_359.out
     have hns57_1 := NB354_359.out
     have hms57_0 := NB359_353.out
     have hms57_1 := NB359_354.out
     refine skip_ (w1 := ?_) (by rfl) rfl ?_ ?_
     rotate_left
     ·go_simp
      rfl
     refine hK.out _ _ ⟨((z24q (p := ⟨gb359, _, none⟩) NB353_359.out _).trans (((z24q (p := ⟨gb359, _, none⟩) NB353_359.out _).trans (((z24q (p := ⟨gb359, _, none⟩) NB353_359.out _).trans (hHeld.1)))))), ((z24q (p := ⟨gb359, _, none⟩) NB353_359.out _).trans (((z24q (p := ⟨gb359, _, none⟩) NB353_359.out _).trans (((z24q (p := ⟨gb359, _, none⟩) NB353_359.out _).trans (hHeld.2.1)))))), ((z24q (p := ⟨gb359, _, none⟩) NB353_359.out _).trans (((z24q (p := ⟨gb359, _, none⟩) NB353_359.out _).trans (((z24q (p := ⟨gb359, _, none⟩) NB353_359.out _).trans (hHeld.2.2))))))⟩ (fun hHeld => ?_)
     clear hK K
     refine done_ (done_of HT_.out (by kernel_rfl)) ?_
     have hnb58 := NB359_353.out
     have hnc58 := NB353_359.out
     have hnb59 := NB359_354.out
     have hnc59 := NB354_359.out
     have hcz60_0 : w54.cell? ⟨gb359, 0, none⟩ = some (.int .i64 0) := (z7q BK359.out 0).trans rfl
     have hcz60_1 : w54.cell? ⟨gb359, 1, none⟩ = some (.int .i64 0) := (z7q BK359.out 1).trans rfl
     have hcz60_2 : w54.cell? ⟨gb359, 2, none⟩ = some (.int .i64 0) := (z7q BK359.out 2).trans rfl
     have hfz60_0 := z8q BK359.out 0
     have hfz60_1 := z8q BK359.out 1
     have hfz60_2 := z8q BK359.out 2
     try go_wp2_with (first | ((with_reducible refine z9q (f := 76) rfl ?_); refine z17q (some 48) rfl rfl Tryd.func76 (by kernel_rfl) rfl #[.int .i64 t357] rfl (by (try simp only [map_toArray, map_cons, map_nil]); first | done | rfl | (simp only [length_drop, length_take]; rfl)) ?_; (with_reducible refine (spec_l2Year.calls t357 false _ A18.out).mono ?_); rintro e w' ⟨rfl, ⟨nd, rfl⟩⟩; refine ⟨_, rfl, ?_⟩; have hcz61_0 : w54.cell? ⟨gb354, 0, none⟩ = some (.int .i64 0) := (z7q BK354.out 0).trans rfl; have hcz61_1 : w54.cell? ⟨gb354, 1, none⟩ = some (.int .i64 0) := (z7q BK354.out 1).trans rfl; have hcz61_2 : w54.cell? ⟨gb354, 2, none⟩ = some (.int .i64 0) := (z7q BK354.out 2).trans rfl; have hfz61_0 := z8q BK354.out 0; have hfz61_1 := z8q BK354.out 1; have hfz61_2 := z8q BK354.out 2))
     refine bodyPost_ret (results_cell_row rfl _ _ gb354 36 #[.int .i64 0, .int .i64 0, .int .i64 0] (0, 0) _ rfl (by (with_reducible repeat (first | refine z4q ?_ _ | refine z6q ?_ | refine z5q ?_ _)); refine z14q (cs := #[.int .i64 0, .int .i64 0, .int .i64 0]) ?_ 2 _ rfl; (with_reducible repeat (first | refine z4q ?_ _ | refine z6q ?_ | refine z5q ?_ _)); refine z14q (cs := #[.int .i64 0, .int .i64 0, .int .i64 0]) ?_ 1 _ rfl; (with_reducible repeat (first | refine z4q ?_ _ | refine z6q ?_ | refine z5q ?_ _)); refine z14q (cs := #[.int .i64 0, .int .i64 0, .int .i64 0]) ?_ 0 _ rfl; (with_reducible repeat (first | refine z4q ?_ _ | refine z6q ?_ | refine z5q ?_ _)); refine z18q ?_ NB354_359.out _; (with_reducible repeat (first | refine z4q ?_ _ | refine z6q ?_ | refine z5q ?_ _)); refine z18q ?_ NB354_359.out _; (with_reducible repeat (first | refine z4q ?_ _ | refine z6q ?_ | refine z5q ?_ _)); refine z18q ?_ NB354_359.out _; (with_reducible repeat (first | refine z4q ?_ _ | refine z6q ?_ | refine z5q ?_ _)); exact BK354.out) Tryd.underlying36 rfl (by kernel_rfl)) rfl ?_
     exact ⟨by first | rfl | (simp [errW_none, errW_some] <;> rfl) | (simp [*, errW_none, errW_some] <;> rfl), by repeat (first | (with_reducible first | exact HB.out | apply z2q | apply z0q | apply z1q | refine z3q ?_ GE353.out | refine z3q ?_ GE354.out | refine z3q ?_ GE359.out) | exact HB.out)⟩

end Go.Proofs.YtffamggcjijobaaDoor.PFnDays
