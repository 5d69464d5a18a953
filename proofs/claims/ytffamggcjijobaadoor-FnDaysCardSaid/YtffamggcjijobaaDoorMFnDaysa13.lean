/- Functions of the program as Lean functions, and proofs that the Go code comes to their answers: for the law FnDays; made out of the print by a program of mine (compact.py). No conditions but each theorem's own. -/
import Derived.Test.YtffamggcjijobaaDoorMFnDaysa0
import Derived.Test.YtffamggcjijobaaDoorMFnDaysa1
import Derived.Test.YtffamggcjijobaaDoorMFnDaysa2
import Derived.Test.YtffamggcjijobaaDoorMFnDaysa4
import Derived.Test.YtffamggcjijobaaDoorMFnDaysa5
import Derived.Test.YtffamggcjijobaaDoorMFnDaysa6
import Derived.Test.YtffamggcjijobaaDoorMFnDaysa7
import Derived.Test.YtffamggcjijobaaDoorMFnDaysa10
import Derived.Test.YtffamggcjijobaaDoorMFnDaysa12
namespace Go.Proofs.YtffamggcjijobaaDoor.PFnDays
open List (map_toArray map_cons map_nil length_drop length_take set_cons_zero set_cons_succ setIfInBounds_toArray)
open Go.RowKit Go.Proofs.YtffamggcjijobaaDoorW.PrintWords Go.Proofs.YtffamggcjijobaaDoorW.PrintLast Go.Proofs.YtffamggcjijobaaDoorW.PrintMore
attribute [local go_sem] max2_int min2_int max_two min_two max_three min_three max_four min_four   -- for this text's walks alone
set_option linter.unusedVariables false
set_option linter.unusedSimpArgs false

attribute [local go_sem high] eqA36
abbrev bt13_0 : Array Bool := #[false, false, false, false, false, false, false, false, false, false]
abbrev bt13_1 : Array Bool := #[true, false, false, false, false, false, false, false, false, false]
abbrev bt13_2 : Array Bool := #[true, false, true, false, false, false, false, false, false, false]
abbrev bt13_3 : Array Bool := #[true, false, true, true, false, false, false, false, false, false]
abbrev bt13_4 : Array Bool := #[true, false, true, true, false, true, false, false, false, false]
abbrev bt13_5 : Array Bool := #[true, true, true, true, false, true, false, false, false, false]
abbrev bt13_6 : Array Bool := #[true, true, true, true, true, true, false, false, false, false]
abbrev bt13_7 : Array Bool := #[true, true, true, true, true, true, true, false, false, false]
abbrev bt13_8 : Array Bool := #[true, true, true, true, true, true, true, true, false, false]
abbrev bt13_9 : Array Bool := #[true, true, true, true, true, true, true, true, true, false]
abbrev bt13_10 : Array Bool := #[true, true, true, true, true, true, true, true, true, true]
abbrev bt13_11 : Array Bool := #[false, false, false, false, false, false]
abbrev bt13_12 : Array Bool := #[false, true, false, false, false, false]
abbrev bt13_13 : Array Bool := #[false, true, false, true, false, false]
abbrev bt13_14 : Array Bool := #[true, true, false, true, false, false]
set_option maxHeartbeats 8000000 in
set_option maxRecDepth 100000 in
theorem laws_FnDays.calls_p3 (k : Nat) (A0 : Option Addr) (c0 : Nat) (l0 : List Int) (r : Bool) (w : World) (hr0 : Kd.C (Kd.int .u8) w A0 l0.length l0) (hc0 : l0.length ≤ c0) (hT : Tab w) (t362 : _) (t363 : _) (t364 : _) (t365 : _) (t366 : _) (t368 : _) (t369 : _) (t370 : _) (t373 : _) (t374 : _) (A3 : Aside0 ((spec_DrawDateOf.f k l0) = some (t362, t363))) (A4 : Aside0 ((impl_DateOf.f k t362 t363) = some (t364, t365, t366))) (A5 : Aside0 ((spec_DateOf.f k t362 t363) = some (t368, t369, t370))) (A25 : Aside0 ((impl_DayOf.f k t362 t364 t365 t366) = some (t373, t374))) (c2 : ¬ ((l0.length : Int) > 1048576)) (c6 : ¬ ((!(t364 == t368) || (!(t365 == t369) || (!(t366 == t370)))) = true)) (c14 : ¬ ((t364 == 0 && (t365 == 0 && (t366 == 0))) = true)) (H : (if t374 = true then (laws_FnDays.j0 k l0 t362 t363 (t373 != t363) t364 t365 t366) else (laws_FnDays.j0 k l0 t362 t363 true t364 t365 t366)) = some r) :
  Calls Tryd.prog 5 #[.slice A0 l0.length c0] w fun e w' => e = .returned (.bool r) ∧ Below w.heap.size w w' := by
 have hu36 := Tryd.underlying36
 have HR0 := Aside0.mk hr0
 have HC0 := Aside0.mk hc0
 clear hr0 hc0
 have HB := Aside0.mk (Below.refl w.heap.size w)
 have c2b0 : decide (1048576 < (l0.length : Int)) = false := decide_eq_false c2
 have c2b1 : decide (1048576 < l0.length) = false := decide_eq_false (by omega)
 clear c2
 have c6b0 : (!(t364 == t368) || (!(t365 == t369) || (!(t366 == t370)))) = false := by simpa using c6
 clear c6
 have c14b0 : (t364 == 0 && (t365 == 0 && (t366 == 0))) = false := by simpa using c14
 (try (have c14b1 : decide (t364 = 0 && (t365 == 0 && (t366 == 0))) = false := by simpa using c14))
 (try (have c14b2 : (t364 == 0 && (t365 == 0 && (t366 == 0))) = false := by simpa using c14))
 (try (have c14b3 : ¬ (t364 = 0 && (t365 == 0 && (t366 == 0))) := by simpa using c14))
 clear c14
 have HC26 := Aside0.mk H
 clear H
 go_enter Tryd.func5, Tryd.ntmps5
 try go_wp2_with (first | ((with_reducible refine z9q (f := 16) rfl ?_); refine z17q (some 27) rfl rfl Tryd.func16 (by kernel_rfl) rfl #[.slice A0 l0.length c0] rfl (by (try simp only [map_toArray, map_cons, map_nil]); first | done | rfl | (simp only [length_drop, length_take]; rfl)) ?_; (with_reducible refine (spec_DrawDateOf.calls k _ _ l0 t362 t363 _ ?side1 ?side2 A3.out).mono ?_); (case side1 => repeat (first | exact HR0.out | (with_reducible refine Kd.C_alloc ?_ _) | (with_reducible refine Kd.C_drewN ?_ _) | (with_reducible refine Kd.C_drew ?_))); (case side2 => exact HC0.out); rintro e w27 ⟨rfl, hb⟩; refine ⟨_, rfl, ?_⟩; have n0_ := Aside0.mk (z11q (by repeat (first | (with_reducible first | exact HB.out | apply z2q | apply z0q | apply z1q) | exact HB.out)) hb); clear HB; have HB := n0_; clear n0_; (try clear hb); (try clear hb2); (try clear hk); (try clear hi)) | ((with_reducible refine z9q (f := 17) rfl ?_); refine z17q (some 32) rfl rfl Tryd.func17 (by kernel_rfl) rfl #[.int .i64 t362, .int .i64 t363] rfl (by (try simp only [map_toArray, map_cons, map_nil]); first | done | rfl | (simp only [length_drop, length_take]; rfl)) ?_; (with_reducible refine (impl_DateOf.calls k t362 t363 t364 t365 t366 _ (hT.below (by repeat (first | exact HB.out | exact Below.refl _ _ | apply z2q | apply z0q | apply z1q | refine z3q ?_ GE367.out | refine z3q ?_ GE378.out | refine z3q ?_ GE396.out | refine z3q ?_ GE400.out | refine z3q ?_ GE407.out))) A4.out).mono ?_); rintro e w28 ⟨rfl, hb⟩; refine ⟨_, rfl, ?_⟩; have n0_ := Aside0.mk (z11q (by repeat (first | (with_reducible first | exact HB.out | apply z2q | apply z0q | apply z1q) | exact HB.out)) hb); clear HB; have HB := n0_; clear n0_; (try clear hb); (try clear hb2); (try clear hk); (try clear hi)) | ((with_reducible refine z22q (N := 5) rfl ?_); refine z20q ?hg (N := 5) ?hd (cs := #[.int .i64 0, .int .i64 0, .int .i64 0]) (t := 36) ?hr ?_; (case hd => rfl); (case hg => rfl); (case hr => first | (go_simp; done) | (go_simp; rfl)); intro gb367 hg w29 hbox hb; have n0_ := Aside0.mk (z11q (by repeat (first | (with_reducible first | exact HB.out | apply z2q | apply z0q | apply z1q) | exact HB.out)) hb); have n1_ := Aside0.mk (hbox); have n2_ := Aside0.mk ((by rw [hg]; exact (z12q (by repeat (first | (with_reducible first | exact HB.out | apply z2q | apply z0q | apply z1q) | exact HB.out))) : w.heap.size ≤ gb367)); have n3_ := Aside0.mk ((by rw [hg]; exact (z12q (by repeat (first | (with_reducible first | exact HB.out | apply z2q | apply z0q | apply z1q) | exact HB.out))) : w.heap.size ≤ gb367)); clear HB; have HB := n0_; have BK367 := n1_; have GW367 := n2_; have GE367 := n3_; clear n0_ n1_ n2_ n3_; clear hb hbox hg; have hcz30_0 : w29.cell? ⟨gb367, 0, none⟩ = some (.int .i64 0) := (z7q BK367.out 0).trans rfl; have hcz30_1 : w29.cell? ⟨gb367, 1, none⟩ = some (.int .i64 0) := (z7q BK367.out 1).trans rfl; have hcz30_2 : w29.cell? ⟨gb367, 2, none⟩ = some (.int .i64 0) := (z7q BK367.out 2).trans rfl; have hfz30_0 := z8q BK367.out 0; have hfz30_1 := z8q BK367.out 1; have hfz30_2 := z8q BK367.out 2))
 have n0_ : Aside0 ((((w29.setCell ⟨gb367, 0, none⟩ (.int .i64 t364)).setCell ⟨gb367, 1, none⟩ (.int .i64 t365)).setCell ⟨gb367, 2, none⟩ (.int .i64 t366)).heap[gb367]? = some (.cells #[.int .i64 t364, .int .i64 t365, .int .i64 t366] 36 (0, 0))) := ⟨by (with_reducible repeat (first | refine z4q ?_ _ | refine z6q ?_ | refine z5q ?_ _)); refine z14q (cs := #[.int .i64 t364, .int .i64 t365, .int .i64 0]) ?_ 2 _ rfl; (with_reducible repeat (first | refine z4q ?_ _ | refine z6q ?_ | refine z5q ?_ _)); refine z14q (cs := #[.int .i64 t364, .int .i64 0, .int .i64 0]) ?_ 1 _ rfl; (with_reducible repeat (first | refine z4q ?_ _ | refine z6q ?_ | refine z5q ?_ _)); refine z14q (cs := #[.int .i64 0, .int .i64 0, .int .i64 0]) ?_ 0 _ rfl; (with_reducible repeat (first | refine z4q ?_ _ | refine z6q ?_ | refine z5q ?_ _)); exact BK367.out⟩
 have n1_ : Aside0 (Below w.heap.size w (((w29.setCell ⟨gb367, 0, none⟩ (.int .i64 t364)).setCell ⟨gb367, 1, none⟩ (.int .i64 t365)).setCell ⟨gb367, 2, none⟩ (.int .i64 t366))) := ⟨by repeat (first | (with_reducible first | exact HB.out | apply z2q | apply z0q | apply z1q | refine z3q ?_ GE367.out) | exact HB.out)⟩
 (try clear BK367)
 (try clear HB)
 generalize (((w29.setCell ⟨gb367, 0, none⟩ (.int .i64 t364)).setCell ⟨gb367, 1, none⟩ (.int .i64 t365)).setCell ⟨gb367, 2, none⟩ (.int .i64 t366)) = w31 at n0_ n1_ ⊢
 have BK367 := n0_
 have HB := n1_
 clear n0_ n1_
 have n0_ := Aside0.mk (z6q BK367.out)
 have n1_ := Aside0.mk (z1q HB.out)
 clear BK367
 clear HB
 have BK367 := n0_
 have HB := n1_
 clear n0_ n1_
 refine start_ (n := 5) (S := fun w' => w'.cell? ⟨gb367, 0, none⟩ = some (.int .i64 t364) ∧ w'.cell? ⟨gb367, 1, none⟩ = some (.int .i64 t365) ∧ w'.cell? ⟨gb367, 2, none⟩ = some (.int .i64 t366)) (ds := []) #[false, false, false, false, false] (by kernel_rfl) rfl rfl ⟨(z7q BK367.out 0).trans rfl, (z7q BK367.out 1).trans rfl, (z7q BK367.out 2).trans rfl⟩ (fun hHeld => ?_)
 generalize w31.drew = w32 at BK367 HB hHeld ⊢
 refine pure_ (i := 1) (N := some 34) (v := ?_) (a' := ?_) #[false, true, false, false, false] rfl rfl (by kernel_rfl) (fun _ _ _ h => h) (Or.inl ⟨by rfl, ?_⟩) ?_ ?_
 rotate_left
 ·intro w'
  go_simp
  with_reducible rfl
 rotate_left
 ·simp only [Act.put, setIfInBounds_toArray, set_cons_zero, set_cons_succ, i64_w, i32_w]
  rfl
 refine pure_ (i := 2) (N := some 35) (v := ?_) (a' := ?_) #[false, true, true, false, false] rfl rfl (by kernel_rfl) (fun _ _ _ h => h) (Or.inl ⟨by rfl, ?_⟩) ?_ ?_
 rotate_left
 ·intro w'
  go_simp
  with_reducible rfl
 rotate_left
 ·simp only [Act.put, setIfInBounds_toArray, set_cons_zero, set_cons_succ, i64_w, i32_w]
  rfl
 refine take_ (i := 0) (N := some 33) (v := ?_) (a' := ?_) #[true, true, true, false, false] rfl rfl (by kernel_rfl) (fun _ _ _ h => h) (Or.inl ⟨by rfl, ?_⟩) hHeld ?_ ?_
 rotate_left
 ·rintro w' ⟨s0, s1, s2⟩
  go_simp
  with_reducible rfl
 rotate_left
 ·simp only [Act.put, setIfInBounds_toArray, set_cons_zero, set_cons_succ, i64_w, i32_w]
  rfl
 refine one_ (i := 3) (N := some 36) #[true, true, true, true, false] rfl rfl (by kernel_rfl) (by decide) (fun K hK => ?_)
 refine goes_ Tryd.func18 (by kernel_rfl) rfl #[.int .i64 t362, .int .i64 t363] (by rfl) rfl rfl (by (try simp only [map_toArray, map_cons, map_nil]); first | done | rfl | (simp only [length_drop, length_take]; rfl)) ?_
 with_reducible refine (spec_DateOf.calls k t362 t363 t368 t369 t370 _ A5.out).mono ?_
 rintro e w33 ⟨rfl, hb⟩
 refine ⟨_, rfl, ?_⟩
 have n0_ := Aside0.mk (z13q (g := gb367) (o := .cells #[.int .i64 t364, .int .i64 t365, .int .i64 t366] 36 (0, 0)) (by (with_reducible repeat (first | refine z4q ?_ _ | refine z6q ?_ | refine z5q ?_ _)); exact BK367.out) hb)
 have n1_ := Aside0.mk (z11q (by repeat (first | (with_reducible first | exact HB.out | apply z2q | apply z0q | apply z1q | refine z3q ?_ GE367.out) | exact HB.out)) hb)
 clear BK367
 clear HB
 have BK367 := n0_
 have HB := n1_
 clear n0_ n1_
 (try clear hb)
 (try clear hb2)
 (try clear hk)
 (try clear hi)
 refine hK.out _ _ ⟨(z7q BK367.out 0).trans rfl, (z7q BK367.out 1).trans rfl, (z7q BK367.out 2).trans rfl⟩ (fun hHeld => ?_)
 clear hK K
 refine norm_ (a' := ?_) ?_ ?_
 rotate_left
 ·show Act.put _ (some 36) _ = _
  simp only [Act.put, setIfInBounds_toArray, set_cons_zero, set_cons_succ, i64_w, i32_w]
  rfl
 refine pure_ (i := 4) (N := some 37) (v := ?_) (a' := ?_) #[true, true, true, true, true] rfl rfl (by kernel_rfl) (fun _ _ _ h => h) (Or.inl ⟨by rfl, ?_⟩) ?_ ?_
 rotate_left
 ·intro w'
  go_simp
  with_reducible rfl
 rotate_left
 ·simp only [Act.put, setIfInBounds_toArray, set_cons_zero, set_cons_succ, i64_w, i32_w]
  rfl
 refine done_ (by kernel_rfl) ?_
 have hcz34_0 : w33.cell? ⟨gb367, 0, none⟩ = some (.int .i64 t364) := (z7q BK367.out 0).trans rfl
 have hcz34_1 : w33.cell? ⟨gb367, 1, none⟩ = some (.int .i64 t365) := (z7q BK367.out 1).trans rfl
 have hcz34_2 : w33.cell? ⟨gb367, 2, none⟩ = some (.int .i64 t366) := (z7q BK367.out 2).trans rfl
 have hfz34_0 := z8q BK367.out 0
 have hfz34_1 := z8q BK367.out 1
 have hfz34_2 := z8q BK367.out 2
 go_upto_region 10 with (first | ((with_reducible refine z9q (f := 21) rfl ?_); refine z17q (some 49) rfl rfl Tryd.func21 (by kernel_rfl) rfl #[.int .i64 t362, .agg #[.int .i64 t364, .int .i64 t365, .int .i64 t366]] rfl (by (try simp only [map_toArray, map_cons, map_nil]); first | done | rfl | (simp only [length_drop, length_take]; rfl)) ?_; (with_reducible refine (impl_DayOf.calls k t362 t364 t365 t366 t373 t374 _ (hT.below (by repeat (first | exact HB.out | exact Below.refl _ _ | apply z2q | apply z0q | apply z1q | refine z3q ?_ GE367.out | refine z3q ?_ GE378.out | refine z3q ?_ GE396.out | refine z3q ?_ GE400.out | refine z3q ?_ GE407.out))) A25.out).mono ?_); rintro e w35 ⟨rfl, hb⟩; refine ⟨_, rfl, ?_⟩; have n0_ := Aside0.mk (z13q (g := gb367) (o := .cells #[.int .i64 t364, .int .i64 t365, .int .i64 t366] 36 (0, 0)) (by (with_reducible repeat (first | refine z4q ?_ _ | refine z6q ?_ | refine z5q ?_ _)); exact BK367.out) hb); have n1_ := Aside0.mk (z11q (by repeat (first | (with_reducible first | exact HB.out | apply z2q | apply z0q | apply z1q | refine z3q ?_ GE367.out) | exact HB.out)) hb); clear BK367; clear HB; have BK367 := n0_; have HB := n1_; clear n0_ n1_; (try clear hb); (try clear hb2); (try clear hk); (try clear hi)))
 (try simp only [Act.put, setIfInBounds_toArray, set_cons_zero, set_cons_succ])
 go_cut [58] (fun v58 wc => ∃ (kq : Nat) (x58_25 : Bool), v58 = .bool x58_25 ∧ Aside0 (laws_FnDays.j0 kq l0 t362 t363 x58_25 t364 t365 t366 = some r) ∧ Aside0 (kq ≤ k) ∧ Aside0 (wc.heap[gb367]? = some (.cells #[.int .i64 t364, .int .i64 t365, .int .i64 t366] 36 (0, 0))) ∧ Aside0 (Below w.heap.size w wc))
 case first =>
  have H := HC26.out
  clear HC26
  by_cases c36 : t374 = true
  ·subst c36
   have H1 : (laws_FnDays.j0 k l0 t362 t363 (t373 != t363) t364 t365 t366) = some r := by rw [if_pos rfl] at H; exact H
   clear H
   have H := H1
   clear H1
   have H' := Aside0.mk H
   clear H
   go_wp2
   go_meet
   case rel => exact ⟨_, ((t373 != t363)), (by first | rfl | (simp; done) | (simp [*]; done) | (simp; unfold wrap64; omega)), H', ⟨by first | omega | exact Nat.le_refl _⟩, ⟨by (with_reducible repeat (first | refine z4q ?_ _ | refine z6q ?_ | refine z5q ?_ _)); exact BK367.out⟩, ⟨by repeat (first | (with_reducible first | exact HB.out | apply z2q | apply z0q | apply z1q | refine z3q ?_ GE367.out) | exact HB.out)⟩⟩
  ·replace c36 := Bool.eq_false_iff.mpr c36
   subst c36
   have H1 : (laws_FnDays.j0 k l0 t362 t363 true t364 t365 t366) = some r := by rw [if_neg (show ¬ (false = true) by decide)] at H; exact H
   clear H
   have H := H1
   clear H1
   have H' := Aside0.mk H
   clear H
   go_wp2
   go_meet
   case rel => exact ⟨_, (true), (by first | rfl | (simp; done) | (simp [*]; done) | (simp; unfold wrap64; omega)), H', ⟨by first | omega | exact Nat.le_refl _⟩, ⟨by (with_reducible repeat (first | refine z4q ?_ _ | refine z6q ?_ | refine z5q ?_ _)); exact BK367.out⟩, ⟨by repeat (first | (with_reducible first | exact HB.out | apply z2q | apply z0q | apply z1q | refine z3q ?_ GE367.out) | exact HB.out)⟩⟩
 case rest =>
  clear HC26
  try clear c1
  try clear c2
  try clear c2b0
  try clear c2b1
  try clear p2
  try clear c3
  try clear c5
  try clear c6
  try clear c6b0
  try clear c14
  try clear c14b0
  try clear c14b1
  try clear c14b2
  try clear c16
  try clear c17
  try clear c18
  try clear c19
  try clear c20
  try clear c21
  try clear c36
  try clear hcz10_0
  try clear hcz10_1
  try clear hcz10_2
  try clear hcz20_0
  try clear hcz20_1
  try clear hcz20_2
  try clear hcz24_0
  try clear hcz24_1
  try clear hcz24_2
  try clear hcz30_0
  try clear hcz30_1
  try clear hcz30_2
  try clear hcz34_0
  try clear hcz34_1
  try clear hcz34_2
  try clear hfz10_0
  try clear hfz10_1
  try clear hfz10_2
  try clear hfz20_0
  try clear hfz20_1
  try clear hfz20_2
  try clear hfz24_0
  try clear hfz24_1
  try clear hfz24_2
  try clear hfz30_0
  try clear hfz30_1
  try clear hfz30_2
  try clear hfz34_0
  try clear hfz34_1
  try clear hfz34_2
  obtain ⟨kq, x58_25, rfl, HA, HJ25, BK367, HB⟩ := hcut
  cases kq with
  | zero => exact absurd HA.out (by simp [laws_FnDays.j0])
  | succ kj25 =>
   have H := HA.out
   clear HA
   simp only [laws_FnDays.j0] at H
   by_cases c37 : x58_25 = true
   ·subst c37
    have H1 : (some false) = some r := by rw [if_pos rfl] at H; exact H
    clear H
    have H := H1
    clear H1
    obtain rfl := Option.some.inj H
    go_wp2
    go_ret
    exact ⟨by first | rfl | (simp [errW_none, errW_some] <;> rfl) | (simp [*, errW_none, errW_some] <;> rfl), by repeat (first | (with_reducible first | exact HB.out | apply z2q | apply z0q | apply z1q | refine z3q ?_ GE367.out) | exact HB.out)⟩
   ·replace c37 := Bool.eq_false_iff.mpr c37
    subst c37
    have H1 : (if t363 < 1000000 then ((impl_DateOf.f kj25 t362 (wrap64 (t363 + 1))).bind fun bt375 => ((impl_MonthDays.f t362 t364 t365).bind fun t379 => (if ((t366 == t379) != (bt375.2.2 == 1)) = true then (some false) else (if t366 = t379 then ((impl_Weekday.f (wrap64 (t363 + 1))).bind fun t380 => ((impl_Weekday.f t363).bind fun t381 => (if t380 = (Int.tmod (wrap64 (t381 + 1)) 7) then (laws_FnDays.j1 kj25 l0 t362 t363 t364 t365 t366) else (some false)))) else (if bt375.2.2 = (wrap64 (t366 + 1)) then ((impl_Weekday.f (wrap64 (t363 + 1))).bind fun t382 => ((impl_Weekday.f t363).bind fun t383 => (if t382 = (Int.tmod (wrap64 (t383 + 1)) 7) then (laws_FnDays.j1 kj25 l0 t362 t363 t364 t365 t366) else (some false)))) else (some false)))))) else (laws_FnDays.j1 kj25 l0 t362 t363 t364 t365 t366)) = some r := by rw [if_neg (show ¬ (false = true) by decide)] at H; exact H
    clear H
    have H := H1
    clear H1
    have HC38 := Aside0.mk H
    clear H
    go_upto_if 60 with (fail)
    go_cut [] (fun wc => ∃ (kq : Nat), Aside0 (laws_FnDays.j1 kq l0 t362 t363 t364 t365 t366 = some r) ∧ Aside0 (kq ≤ kj25) ∧ Aside0 (wc.heap[gb367]? = some (.cells #[.int .i64 t364, .int .i64 t365, .int .i64 t366] 36 (0, 0))) ∧ Aside0 (Below w.heap.size w wc))
    case first =>
     have H := HC38.out
     clear HC38
     by_cases c39 : t363 < 1000000
     ·rw [if_pos c39] at H
      have c39b0 : decide (t363 < 1000000) = true := decide_eq_true c39
      clear c39
      (first | rw [c39b0] | (simp only [i64_w, i32_w]; rw [c39b0]) | skip)
      replace H := Option.bind_eq_some_iff.mp H
      obtain ⟨⟨t375, t376, t377⟩, A400, H⟩ := H
      replace H : ((impl_MonthDays.f t362 t364 t365).bind fun t379 => (if ((t366 == t379) != (t377 == 1)) = true then (some false) else (if t366 = t379 then ((impl_Weekday.f (wrap64 (t363 + 1))).bind fun t380 => ((impl_Weekday.f t363).bind fun t381 => (if t380 = (Int.tmod (wrap64 (t381 + 1)) 7) then (laws_FnDays.j1 kj25 l0 t362 t363 t364 t365 t366) else (some false)))) else (if t377 = (wrap64 (t366 + 1)) then ((impl_Weekday.f (wrap64 (t363 + 1))).bind fun t382 => ((impl_Weekday.f t363).bind fun t383 => (if t382 = (Int.tmod (wrap64 (t383 + 1)) 7) then (laws_FnDays.j1 kj25 l0 t362 t363 t364 t365 t366) else (some false)))) else (some false))))) = some r := H
      have A40 := Aside0.mk A400
      clear A400
      replace H := Option.bind_eq_some_iff.mp H
      obtain ⟨t379, A410, H⟩ := H
      replace H : (if ((t366 == t379) != (t377 == 1)) = true then (some false) else (if t366 = t379 then ((impl_Weekday.f (wrap64 (t363 + 1))).bind fun t380 => ((impl_Weekday.f t363).bind fun t381 => (if t380 = (Int.tmod (wrap64 (t381 + 1)) 7) then (laws_FnDays.j1 kj25 l0 t362 t363 t364 t365 t366) else (some false)))) else (if t377 = (wrap64 (t366 + 1)) then ((impl_Weekday.f (wrap64 (t363 + 1))).bind fun t382 => ((impl_Weekday.f t363).bind fun t383 => (if t382 = (Int.tmod (wrap64 (t383 + 1)) 7) then (laws_FnDays.j1 kj25 l0 t362 t363 t364 t365 t366) else (some false)))) else (some false)))) = some r := H
      have A41 := Aside0.mk A410
      clear A410
      by_cases c42 : ((t366 == t379) != (t377 == 1)) = true
      ·rw [if_pos c42] at H
       have c42b0 : ((t366 == t379) != (t377 == 1)) = true := c42
       (try (have c42b1 : decide ((t366 == t379) = (t377 == 1)) = false := by simpa using c42))
       (try (have c42b2 : ((t366 == t379) == (t377 == 1)) = false := by simpa using c42))
       (try (have c42b3 : ¬ ((t366 == t379) = (t377 == 1)) := by simpa using c42))
       clear c42
       obtain rfl := Option.some.inj H
       try go_wp2_with (first | ((with_reducible refine z9q (f := 17) rfl ?_); refine z17q (some 64) rfl rfl Tryd.func17 (by kernel_rfl) rfl #[.int .i64 t362, .int .i64 (wrap64 (t363 + 1))] rfl (by (try simp only [map_toArray, map_cons, map_nil]); first | done | rfl | (simp only [length_drop, length_take]; rfl)) ?_; (with_reducible refine (impl_DateOf.calls kj25 t362 (wrap64 (t363 + 1)) t375 t376 t377 _ (hT.below (by repeat (first | exact HB.out | exact Below.refl _ _ | apply z2q | apply z0q | apply z1q | refine z3q ?_ GE367.out | refine z3q ?_ GE378.out | refine z3q ?_ GE396.out | refine z3q ?_ GE400.out | refine z3q ?_ GE407.out))) A40.out).mono ?_); rintro e w43 ⟨rfl, hb⟩; refine ⟨_, rfl, ?_⟩; have n0_ := Aside0.mk (z13q (g := gb367) (o := .cells #[.int .i64 t364, .int .i64 t365, .int .i64 t366] 36 (0, 0)) (by (with_reducible repeat (first | refine z4q ?_ _ | refine z6q ?_ | refine z5q ?_ _)); exact BK367.out) hb); have n1_ := Aside0.mk (z11q (by repeat (first | (with_reducible first | exact HB.out | apply z2q | apply z0q | apply z1q | refine z3q ?_ GE367.out) | exact HB.out)) hb); clear BK367; clear HB; have BK367 := n0_; have HB := n1_; clear n0_ n1_; (try clear hb); (try clear hb2); (try clear hk); (try clear hi)) | ((with_reducible refine z22q (N := 8) rfl ?_); refine z20q ?hg (N := 8) ?hd (cs := #[.int .i64 0, .int .i64 0, .int .i64 0]) (t := 36) ?hr ?_; (case hd => rfl); (case hg => rfl); (case hr => first | (go_simp; done) | (go_simp; rfl)); intro gb378 hg w44 hbox hb; have n0_ := Aside0.mk (z13q (g := gb367) (o := .cells #[.int .i64 t364, .int .i64 t365, .int .i64 t366] 36 (0, 0)) (by (with_reducible repeat (first | refine z4q ?_ _ | refine z6q ?_ | refine z5q ?_ _)); exact BK367.out) hb); have n1_ := Aside0.mk (z11q (by repeat (first | (with_reducible first | exact HB.out | apply z2q | apply z0q | apply z1q | refine z3q ?_ GE367.out) | exact HB.out)) hb); have n2_ := Aside0.mk (hbox); have n3_ := Aside0.mk ((by rw [hg]; exact (z12q (by repeat (first | (with_reducible first | exact HB.out | apply z2q | apply z0q | apply z1q | refine z3q ?_ GE367.out) | exact HB.out))) : w.heap.size ≤ gb378)); have n4_ := Aside0.mk ((by rw [hg]; exact (z12q (by repeat (first | (with_reducible first | exact HB.out | apply z2q | apply z0q | apply z1q | refine z3q ?_ GE367.out) | exact HB.out))) : w.heap.size ≤ gb378)); have n5_ := Aside0.mk ((by rw [hg]; exact Nat.ne_of_lt (z21q (g := gb367) (o := .cells #[.int .i64 t364, .int .i64 t365, .int .i64 t366] 36 (0, 0)) (by (with_reducible repeat (first | refine z4q ?_ _ | refine z6q ?_ | refine z5q ?_ _)); exact BK367.out)) : gb367 ≠ gb378)); have n6_ := Aside0.mk ((by rw [hg]; exact Nat.ne_of_gt (z21q (g := gb367) (o := .cells #[.int .i64 t364, .int .i64 t365, .int .i64 t366] 36 (0, 0)) (by (with_reducible repeat (first | refine z4q ?_ _ | refine z6q ?_ | refine z5q ?_ _)); exact BK367.out)) : gb378 ≠ gb367)); clear BK367; clear HB; have BK367 := n0_; have HB := n1_; have BK378 := n2_; have GW378 := n3_; have GE378 := n4_; have NB367_378 := n5_; have NB378_367 := n6_; clear n0_ n1_ n2_ n3_ n4_ n5_ n6_; clear hb hbox hg; have hnb45 := NB378_367.out; have hnc45 := NB367_378.out; have hcz46_0 : w44.cell? ⟨gb378, 0, none⟩ = some (.int .i64 0) := (z7q BK378.out 0).trans rfl; have hcz46_1 : w44.cell? ⟨gb378, 1, none⟩ = some (.int .i64 0) := (z7q BK378.out 1).trans rfl; have hcz46_2 : w44.cell? ⟨gb378, 2, none⟩ = some (.int .i64 0) := (z7q BK378.out 2).trans rfl; have hfz46_0 := z8q BK378.out 0; have hfz46_1 := z8q BK378.out 1; have hfz46_2 := z8q BK378.out 2))
       have n0_ : Aside0 ((((w44.setCell ⟨gb378, 0, none⟩ (.int .i64 t375)).setCell ⟨gb378, 1, none⟩ (.int .i64 t376)).setCell ⟨gb378, 2, none⟩ (.int .i64 t377)).heap[gb367]? = some (.cells #[.int .i64 t364, .int .i64 t365, .int .i64 t366] 36 (0, 0))) := ⟨by (with_reducible repeat (first | refine z4q ?_ _ | refine z6q ?_ | refine z5q ?_ _)); refine z18q ?_ NB367_378.out _; (with_reducible repeat (first | refine z4q ?_ _ | refine z6q ?_ | refine z5q ?_ _)); refine z18q ?_ NB367_378.out _; (with_reducible repeat (first | refine z4q ?_ _ | refine z6q ?_ | refine z5q ?_ _)); refine z18q ?_ NB367_378.out _; (with_reducible repeat (first | refine z4q ?_ _ | refine z6q ?_ | refine z5q ?_ _)); exact BK367.out⟩
       have n1_ : Aside0 ((((w44.setCell ⟨gb378, 0, none⟩ (.int .i64 t375)).setCell ⟨gb378, 1, none⟩ (.int .i64 t376)).setCell ⟨gb378, 2, none⟩ (.int .i64 t377)).heap[gb378]? = some (.cells #[.int .i64 t375, .int .i64 t376, .int .i64 t377] 36 (0, 0))) := ⟨by (with_reducible repeat (first | refine z4q ?_ _ | refine z6q ?_ | refine z5q ?_ _)); refine z14q (cs := #[.int .i64 t375, .int .i64 t376, .int .i64 0]) ?_ 2 _ rfl; (with_reducible repeat (first | refine z4q ?_ _ | refine z6q ?_ | refine z5q ?_ _)); refine z14q (cs := #[.int .i64 t375, .int .i64 0, .int .i64 0]) ?_ 1 _ rfl; (with_reducible repeat (first | refine z4q ?_ _ | refine z6q ?_ | refine z5q ?_ _)); refine z14q (cs := #[.int .i64 0, .int .i64 0, .int .i64 0]) ?_ 0 _ rfl; (with_reducible repeat (first | refine z4q ?_ _ | refine z6q ?_ | refine z5q ?_ _)); exact BK378.out⟩
       have n2_ : Aside0 (Below w.heap.size w (((w44.setCell ⟨gb378, 0, none⟩ (.int .i64 t375)).setCell ⟨gb378, 1, none⟩ (.int .i64 t376)).setCell ⟨gb378, 2, none⟩ (.int .i64 t377))) := ⟨by repeat (first | (with_reducible first | exact HB.out | apply z2q | apply z0q | apply z1q | refine z3q ?_ GE367.out | refine z3q ?_ GE378.out) | exact HB.out)⟩
       (try clear BK367)
       (try clear BK378)
       (try clear HB)
       generalize (((w44.setCell ⟨gb378, 0, none⟩ (.int .i64 t375)).setCell ⟨gb378, 1, none⟩ (.int .i64 t376)).setCell ⟨gb378, 2, none⟩ (.int .i64 t377)) = w47 at n0_ n1_ n2_ ⊢
       have BK367 := n0_
       have BK378 := n1_
       have HB := n2_
       clear n0_ n1_ n2_
       have n0_ := Aside0.mk (z6q BK367.out)
       have n1_ := Aside0.mk (z6q BK378.out)
       have n2_ := Aside0.mk (z1q HB.out)
       clear BK367
       clear BK378
       clear HB
       have BK367 := n0_
       have BK378 := n1_
       have HB := n2_
       clear n0_ n1_ n2_
       refine start_ (n := 10) (S := fun w' => w'.cell? ⟨gb367, 0, none⟩ = some (.int .i64 t364) ∧ w'.cell? ⟨gb367, 1, none⟩ = some (.int .i64 t365) ∧ w'.cell? ⟨gb367, 2, none⟩ = some (.int .i64 t366)) (ds := []) bt13_0 (by kernel_rfl) rfl rfl ⟨(z7q BK367.out 0).trans rfl, (z7q BK367.out 1).trans rfl, (z7q BK367.out 2).trans rfl⟩ (fun hHeld => ?_); refine with_tabW laws_FnDays.tab14 laws_FnDays.bits14 (fun HT_ HW_ => ?_)
       generalize w47.drew = w48 at BK367 BK378 HB hHeld ⊢
       refine pure_ (i := 0) (N := some 65) (v := ?_) (a' := ?_) bt13_1 rfl rfl (z10q HT_.out (by kernel_rfl)) (fun _ _ _ h => h) (Or.inl ⟨by rfl, ?_⟩) ?_ ?_
       rotate_left
       ·intro w'
        go_simp
        with_reducible rfl
       rotate_left
       ·simp only [Act.put, setIfInBounds_toArray, set_cons_zero, set_cons_succ, i64_w, i32_w]
        rfl
       refine pure_ (i := 2) (N := some 67) (v := ?_) (a' := ?_) bt13_2 rfl rfl (z10q HT_.out (by kernel_rfl)) (fun _ _ _ h => h) (Or.inl ⟨by rfl, ?_⟩) ?_ ?_
       rotate_left
       ·intro w'
        go_simp
        with_reducible rfl
       rotate_left
       ·simp only [Act.put, setIfInBounds_toArray, set_cons_zero, set_cons_succ, i64_w, i32_w]
        rfl
       refine pure_ (i := 3) (N := some 68) (v := ?_) (a' := ?_) bt13_3 rfl rfl (z10q HT_.out (by kernel_rfl)) (fun _ _ _ h => h) (Or.inl ⟨by rfl, ?_⟩) ?_ ?_
       rotate_left
       ·intro w'
        go_simp
        with_reducible rfl
       rotate_left
       ·simp only [Act.put, setIfInBounds_toArray, set_cons_zero, set_cons_succ, i64_w, i32_w]
        rfl
       refine pure_ (i := 5) (N := some 70) (v := ?_) (a' := ?_) bt13_4 rfl rfl (z10q HT_.out (by kernel_rfl)) (fun _ _ _ h => h) (Or.inl ⟨by rfl, ?_⟩) ?_ ?_
       rotate_left
       ·intro w'
        go_simp
        with_reducible rfl
       rotate_left
       ·simp only [Act.put, setIfInBounds_toArray, set_cons_zero, set_cons_succ, i64_w, i32_w]
        rfl
       refine take_ (i := 1) (N := some 66) (v := ?_) (a' := ?_) bt13_5 rfl rfl (z23q HT_.out HW_.out (by kernel_rfl)) (fun _ _ _ h => h) (Or.inl ⟨by rfl, ?_⟩) hHeld ?_ ?_
       rotate_left
       ·rintro w' ⟨s0, s1, s2⟩
        go_simp
        with_reducible rfl
       rotate_left
       ·simp only [Act.put, setIfInBounds_toArray, set_cons_zero, set_cons_succ, i64_w, i32_w]
        rfl
       refine take_ (i := 4) (N := some 69) (v := ?_) (a' := ?_) bt13_6 rfl rfl (z23q HT_.out HW_.out (by kernel_rfl)) (fun _ _ _ h => h) (Or.inl ⟨by rfl, ?_⟩) hHeld ?_ ?_
       rotate_left
       ·rintro w' ⟨s0, s1, s2⟩
        go_simp
        with_reducible rfl
       rotate_left
       ·simp only [Act.put, setIfInBounds_toArray, set_cons_zero, set_cons_succ, i64_w, i32_w]
        rfl
       refine take_ (i := 6) (N := some 71) (v := ?_) (a' := ?_) bt13_7 rfl rfl (z23q HT_.out HW_.out (by kernel_rfl)) (fun _ _ _ h => h) (Or.inl ⟨by rfl, ?_⟩) hHeld ?_ ?_
       rotate_left
       ·rintro w' ⟨s0, s1, s2⟩
        go_simp
        with_reducible rfl
       rotate_left
       ·simp only [Act.put, setIfInBounds_toArray, set_cons_zero, set_cons_succ, i64_w, i32_w]
        rfl
       refine one_ (i := 7) (N := some 72) bt13_8 rfl rfl (one_of HT_.out (by kernel_rfl)) (by decide) (fun K hK => ?_)
       refine goes_ Tryd.func22 (by kernel_rfl) rfl #[.int .i64 t362, .int .i64 t364, .int .i64 t365] (by rfl) rfl rfl (by (try simp only [map_toArray, map_cons, map_nil]); first | done | rfl | (simp only [length_drop, length_take]; rfl)) ?_
       with_reducible refine (impl_MonthDays.calls t362 t364 t365 t379 _ (hT.below (by repeat (first | exact HB.out | exact Below.refl _ _ | apply z2q | apply z0q | apply z1q | refine z3q ?_ GE367.out | refine z3q ?_ GE378.out | refine z3q ?_ GE396.out | refine z3q ?_ GE400.out | refine z3q ?_ GE407.out))) A41.out).mono ?_
       rintro e w' ⟨rfl, ⟨nd, rfl⟩⟩
       refine ⟨_, rfl, ?_⟩
       refine hK.out _ _ ⟨(z7q BK367.out 0).trans rfl, (z7q BK367.out 1).trans rfl, (z7q BK367.out 2).trans rfl⟩ (fun hHeld => ?_)
       clear hK K
       refine norm_ (a' := ?_) ?_ ?_
       rotate_left
       ·show Act.put _ (some 72) _ = _
        simp only [Act.put, setIfInBounds_toArray, set_cons_zero, set_cons_succ, i64_w, i32_w]
        rfl
       refine pure_ (i := 8) (N := some 73) (v := ?_) (a' := ?_) bt13_9 rfl rfl (z10q HT_.out (by kernel_rfl)) (fun _ _ _ h => h) (Or.inl ⟨by rfl, ?_⟩) ?_ ?_
       rotate_left
       ·intro w'
        go_simp
        with_reducible rfl
       rotate_left
       ·simp only [Act.put, setIfInBounds_toArray, set_cons_zero, set_cons_succ, i64_w, i32_w]
        rfl
       refine pure_ (i := 9) (N := some 9) (v := ?_) (a' := ?_) bt13_10 rfl rfl (z10q HT_.out (by kernel_rfl)) (fun _ _ _ h => h) (Or.inl ⟨by rfl, ?_⟩) ?_ ?_
       rotate_left
       ·intro w'
        go_simp
        with_reducible rfl
       rotate_left
       ·simp only [Act.put, setIfInBounds_toArray, set_cons_zero, set_cons_succ, i64_w, i32_w]
        rfl
       refine done_ (done_of HT_.out (by kernel_rfl)) ?_
       have hcz49_0 : w48.cell? ⟨gb378, 0, none⟩ = some (.int .i64 t375) := (z7q BK378.out 0).trans rfl
       have hcz49_1 : w48.cell? ⟨gb378, 1, none⟩ = some (.int .i64 t376) := (z7q BK378.out 1).trans rfl
       have hcz49_2 : w48.cell? ⟨gb378, 2, none⟩ = some (.int .i64 t377) := (z7q BK378.out 2).trans rfl
       have hfz49_0 := z8q BK378.out 0
       have hfz49_1 := z8q BK378.out 1
       have hfz49_2 := z8q BK378.out 2
       try go_wp2
       go_ret
       exact ⟨by first | rfl | (simp [errW_none, errW_some] <;> rfl) | (simp [*, errW_none, errW_some] <;> rfl), by repeat (first | (with_reducible first | exact HB.out | apply z2q | apply z0q | apply z1q | refine z3q ?_ GE367.out | refine z3q ?_ GE378.out) | exact HB.out)⟩
      ·rw [if_neg c42] at H
       have c42b0 : ((t366 == t379) != (t377 == 1)) = false := by simpa using c42
       (try (have c42b1 : decide ((t366 == t379) = (t377 == 1)) = true := by simpa using c42))
       (try (have c42b2 : ((t366 == t379) == (t377 == 1)) = true := by simpa using c42))
       clear c42
       by_cases c50 : t366 = t379
       ·rw [if_pos c50] at H
        have c50b0 : (t366 == t379) = true := beq_iff_eq.mpr c50
        have c50z : (t377 == 1) = true := by have h_ := c42b0; rw [c50b0] at h_; simpa using h_
        have c50b1 : (t366 != t379) = false := bne_eq_false_iff_eq.mpr c50
        clear c50
        replace H := Option.bind_eq_some_iff.mp H
        obtain ⟨t380, A510, H⟩ := H
        replace H : ((impl_Weekday.f t363).bind fun t381 => (if t380 = (Int.tmod (wrap64 (t381 + 1)) 7) then (laws_FnDays.j1 kj25 l0 t362 t363 t364 t365 t366) else (some false))) = some r := H
        have A51 := Aside0.mk A510
        clear A510
        replace H := Option.bind_eq_some_iff.mp H
        obtain ⟨t381, A520, H⟩ := H
        replace H : (if t380 = (Int.tmod (wrap64 (t381 + 1)) 7) then (laws_FnDays.j1 kj25 l0 t362 t363 t364 t365 t366) else (some false)) = some r := H
        have A52 := Aside0.mk A520
        clear A520
        by_cases c53 : t380 = (Int.tmod (wrap64 (t381 + 1)) 7)
        ·rw [if_pos c53] at H
         have c53b0 : (t380 == (Int.tmod (wrap64 (t381 + 1)) 7)) = true := beq_iff_eq.mpr c53
         have c53b1 : (t380 != (Int.tmod (wrap64 (t381 + 1)) 7)) = false := bne_eq_false_iff_eq.mpr c53
         clear c53
         have H' := Aside0.mk H
         clear H
         try go_wp2_with (first | ((with_reducible refine z9q (f := 17) rfl ?_); refine z17q (some 64) rfl rfl Tryd.func17 (by kernel_rfl) rfl #[.int .i64 t362, .int .i64 (wrap64 (t363 + 1))] rfl (by (try simp only [map_toArray, map_cons, map_nil]); first | done | rfl | (simp only [length_drop, length_take]; rfl)) ?_; (with_reducible refine (impl_DateOf.calls kj25 t362 (wrap64 (t363 + 1)) t375 t376 t377 _ (hT.below (by repeat (first | exact HB.out | exact Below.refl _ _ | apply z2q | apply z0q | apply z1q | refine z3q ?_ GE367.out | refine z3q ?_ GE378.out | refine z3q ?_ GE396.out | refine z3q ?_ GE400.out | refine z3q ?_ GE407.out))) A40.out).mono ?_); rintro e w54 ⟨rfl, hb⟩; refine ⟨_, rfl, ?_⟩; have n0_ := Aside0.mk (z13q (g := gb367) (o := .cells #[.int .i64 t364, .int .i64 t365, .int .i64 t366] 36 (0, 0)) (by (with_reducible repeat (first | refine z4q ?_ _ | refine z6q ?_ | refine z5q ?_ _)); exact BK367.out) hb); have n1_ := Aside0.mk (z11q (by repeat (first | (with_reducible first | exact HB.out | apply z2q | apply z0q | apply z1q | refine z3q ?_ GE367.out) | exact HB.out)) hb); clear BK367; clear HB; have BK367 := n0_; have HB := n1_; clear n0_ n1_; (try clear hb); (try clear hb2); (try clear hk); (try clear hi)) | ((with_reducible refine z22q (N := 8) rfl ?_); refine z20q ?hg (N := 8) ?hd (cs := #[.int .i64 0, .int .i64 0, .int .i64 0]) (t := 36) ?hr ?_; (case hd => rfl); (case hg => rfl); (case hr => first | (go_simp; done) | (go_simp; rfl)); intro gb378 hg w55 hbox hb; have n0_ := Aside0.mk (z13q (g := gb367) (o := .cells #[.int .i64 t364, .int .i64 t365, .int .i64 t366] 36 (0, 0)) (by (with_reducible repeat (first | refine z4q ?_ _ | refine z6q ?_ | refine z5q ?_ _)); exact BK367.out) hb); have n1_ := Aside0.mk (z11q (by repeat (first | (with_reducible first | exact HB.out | apply z2q | apply z0q | apply z1q | refine z3q ?_ GE367.out) | exact HB.out)) hb); have n2_ := Aside0.mk (hbox); have n3_ := Aside0.mk ((by rw [hg]; exact (z12q (by repeat (first | (with_reducible first | exact HB.out | apply z2q | apply z0q | apply z1q | refine z3q ?_ GE367.out) | exact HB.out))) : w.heap.size ≤ gb378)); have n4_ := Aside0.mk ((by rw [hg]; exact (z12q (by repeat (first | (with_reducible first | exact HB.out | apply z2q | apply z0q | apply z1q | refine z3q ?_ GE367.out) | exact HB.out))) : w.heap.size ≤ gb378)); have n5_ := Aside0.mk ((by rw [hg]; exact Nat.ne_of_lt (z21q (g := gb367) (o := .cells #[.int .i64 t364, .int .i64 t365, .int .i64 t366] 36 (0, 0)) (by (with_reducible repeat (first | refine z4q ?_ _ | refine z6q ?_ | refine z5q ?_ _)); exact BK367.out)) : gb367 ≠ gb378)); have n6_ := Aside0.mk ((by rw [hg]; exact Nat.ne_of_gt (z21q (g := gb367) (o := .cells #[.int .i64 t364, .int .i64 t365, .int .i64 t366] 36 (0, 0)) (by (with_reducible repeat (first | refine z4q ?_ _ | refine z6q ?_ | refine z5q ?_ _)); exact BK367.out)) : gb378 ≠ gb367)); clear BK367; clear HB; have BK367 := n0_; have HB := n1_; have BK378 := n2_; have GW378 := n3_; have GE378 := n4_; have NB367_378 := n5_; have NB378_367 := n6_; clear n0_ n1_ n2_ n3_ n4_ n5_ n6_; clear hb hbox hg; have hnb56 := NB378_367.out; have hnc56 := NB367_378.out; have hcz57_0 : w55.cell? ⟨gb378, 0, none⟩ = some (.int .i64 0) := (z7q BK378.out 0).trans rfl; have hcz57_1 : w55.cell? ⟨gb378, 1, none⟩ = some (.int .i64 0) := (z7q BK378.out 1).trans rfl; have hcz57_2 : w55.cell? ⟨gb378, 2, none⟩ = some (.int .i64 0) := (z7q BK378.out 2).trans rfl; have hfz57_0 := z8q BK378.out 0; have hfz57_1 := z8q BK378.out 1; have hfz57_2 := z8q BK378.out 2))
         have n0_ : Aside0 ((((w55.setCell ⟨gb378, 0, none⟩ (.int .i64 t375)).setCell ⟨gb378, 1, none⟩ (.int .i64 t376)).setCell ⟨gb378, 2, none⟩ (.int .i64 t377)).heap[gb367]? = some (.cells #[.int .i64 t364, .int .i64 t365, .int .i64 t366] 36 (0, 0))) := ⟨by (with_reducible repeat (first | refine z4q ?_ _ | refine z6q ?_ | refine z5q ?_ _)); refine z18q ?_ NB367_378.out _; (with_reducible repeat (first | refine z4q ?_ _ | refine z6q ?_ | refine z5q ?_ _)); refine z18q ?_ NB367_378.out _; (with_reducible repeat (first | refine z4q ?_ _ | refine z6q ?_ | refine z5q ?_ _)); refine z18q ?_ NB367_378.out _; (with_reducible repeat (first | refine z4q ?_ _ | refine z6q ?_ | refine z5q ?_ _)); exact BK367.out⟩
         have n1_ : Aside0 ((((w55.setCell ⟨gb378, 0, none⟩ (.int .i64 t375)).setCell ⟨gb378, 1, none⟩ (.int .i64 t376)).setCell ⟨gb378, 2, none⟩ (.int .i64 t377)).heap[gb378]? = some (.cells #[.int .i64 t375, .int .i64 t376, .int .i64 t377] 36 (0, 0))) := ⟨by (with_reducible repeat (first | refine z4q ?_ _ | refine z6q ?_ | refine z5q ?_ _)); refine z14q (cs := #[.int .i64 t375, .int .i64 t376, .int .i64 0]) ?_ 2 _ rfl; (with_reducible repeat (first | refine z4q ?_ _ | refine z6q ?_ | refine z5q ?_ _)); refine z14q (cs := #[.int .i64 t375, .int .i64 0, .int .i64 0]) ?_ 1 _ rfl; (with_reducible repeat (first | refine z4q ?_ _ | refine z6q ?_ | refine z5q ?_ _)); refine z14q (cs := #[.int .i64 0, .int .i64 0, .int .i64 0]) ?_ 0 _ rfl; (with_reducible repeat (first | refine z4q ?_ _ | refine z6q ?_ | refine z5q ?_ _)); exact BK378.out⟩
         have n2_ : Aside0 (Below w.heap.size w (((w55.setCell ⟨gb378, 0, none⟩ (.int .i64 t375)).setCell ⟨gb378, 1, none⟩ (.int .i64 t376)).setCell ⟨gb378, 2, none⟩ (.int .i64 t377))) := ⟨by repeat (first | (with_reducible first | exact HB.out | apply z2q | apply z0q | apply z1q | refine z3q ?_ GE367.out | refine z3q ?_ GE378.out) | exact HB.out)⟩
         (try clear BK367)
         (try clear BK378)
         (try clear HB)
         generalize (((w55.setCell ⟨gb378, 0, none⟩ (.int .i64 t375)).setCell ⟨gb378, 1, none⟩ (.int .i64 t376)).setCell ⟨gb378, 2, none⟩ (.int .i64 t377)) = w58 at n0_ n1_ n2_ ⊢
         have BK367 := n0_
         have BK378 := n1_
         have HB := n2_
         clear n0_ n1_ n2_
         have n0_ := Aside0.mk (z6q BK367.out)
         have n1_ := Aside0.mk (z6q BK378.out)
         have n2_ := Aside0.mk (z1q HB.out)
         clear BK367
         clear BK378
         clear HB
         have BK367 := n0_
         have BK378 := n1_
         have HB := n2_
         clear n0_ n1_ n2_
         refine start_ (n := 10) (S := fun w' => w'.cell? ⟨gb367, 0, none⟩ = some (.int .i64 t364) ∧ w'.cell? ⟨gb367, 1, none⟩ = some (.int .i64 t365) ∧ w'.cell? ⟨gb367, 2, none⟩ = some (.int .i64 t366)) (ds := []) bt13_0 (by kernel_rfl) rfl rfl ⟨(z7q BK367.out 0).trans rfl, (z7q BK367.out 1).trans rfl, (z7q BK367.out 2).trans rfl⟩ (fun hHeld => ?_); refine with_tabW laws_FnDays.tab14 laws_FnDays.bits14 (fun HT_ HW_ => ?_)
         generalize w58.drew = w59 at BK367 BK378 HB hHeld ⊢
         refine pure_ (i := 0) (N := some 65) (v := ?_) (a' := ?_) bt13_1 rfl rfl (z10q HT_.out (by kernel_rfl)) (fun _ _ _ h => h) (Or.inl ⟨by rfl, ?_⟩) ?_ ?_
         rotate_left
         ·intro w'
          go_simp
          with_reducible rfl
         rotate_left
         ·simp only [Act.put, setIfInBounds_toArray, set_cons_zero, set_cons_succ, i64_w, i32_w]
          rfl
         refine pure_ (i := 2) (N := some 67) (v := ?_) (a' := ?_) bt13_2 rfl rfl (z10q HT_.out (by kernel_rfl)) (fun _ _ _ h => h) (Or.inl ⟨by rfl, ?_⟩) ?_ ?_
         rotate_left
         ·intro w'
          go_simp
          with_reducible rfl
         rotate_left
         ·simp only [Act.put, setIfInBounds_toArray, set_cons_zero, set_cons_succ, i64_w, i32_w]
          rfl
         refine pure_ (i := 3) (N := some 68) (v := ?_) (a' := ?_) bt13_3 rfl rfl (z10q HT_.out (by kernel_rfl)) (fun _ _ _ h => h) (Or.inl ⟨by rfl, ?_⟩) ?_ ?_
         rotate_left
         ·intro w'
          go_simp
          with_reducible rfl
         rotate_left
         ·simp only [Act.put, setIfInBounds_toArray, set_cons_zero, set_cons_succ, i64_w, i32_w]
          rfl
         refine pure_ (i := 5) (N := some 70) (v := ?_) (a' := ?_) bt13_4 rfl rfl (z10q HT_.out (by kernel_rfl)) (fun _ _ _ h => h) (Or.inl ⟨by rfl, ?_⟩) ?_ ?_
         rotate_left
         ·intro w'
          go_simp
          with_reducible rfl
         rotate_left
         ·simp only [Act.put, setIfInBounds_toArray, set_cons_zero, set_cons_succ, i64_w, i32_w]
          rfl
         refine take_ (i := 1) (N := some 66) (v := ?_) (a' := ?_) bt13_5 rfl rfl (z23q HT_.out HW_.out (by kernel_rfl)) (fun _ _ _ h => h) (Or.inl ⟨by rfl, ?_⟩) hHeld ?_ ?_
         rotate_left
         ·rintro w' ⟨s0, s1, s2⟩
          go_simp
          with_reducible rfl
         rotate_left
         ·simp only [Act.put, setIfInBounds_toArray, set_cons_zero, set_cons_succ, i64_w, i32_w]
          rfl
         refine take_ (i := 4) (N := some 69) (v := ?_) (a' := ?_) bt13_6 rfl rfl (z23q HT_.out HW_.out (by kernel_rfl)) (fun _ _ _ h => h) (Or.inl ⟨by rfl, ?_⟩) hHeld ?_ ?_
         rotate_left
         ·rintro w' ⟨s0, s1, s2⟩
          go_simp
          with_reducible rfl
         rotate_left
         ·simp only [Act.put, setIfInBounds_toArray, set_cons_zero, set_cons_succ, i64_w, i32_w]
          rfl
         refine take_ (i := 6) (N := some 71) (v := ?_) (a' := ?_) bt13_7 rfl rfl (z23q HT_.out HW_.out (by kernel_rfl)) (fun _ _ _ h => h) (Or.inl ⟨by rfl, ?_⟩) hHeld ?_ ?_
         rotate_left
         ·rintro w' ⟨s0, s1, s2⟩
          go_simp
          with_reducible rfl
         rotate_left
         ·simp only [Act.put, setIfInBounds_toArray, set_cons_zero, set_cons_succ, i64_w, i32_w]
          rfl
         refine one_ (i := 7) (N := some 72) bt13_8 rfl rfl (one_of HT_.out (by kernel_rfl)) (by decide) (fun K hK => ?_)
         refine goes_ Tryd.func22 (by kernel_rfl) rfl #[.int .i64 t362, .int .i64 t364, .int .i64 t365] (by rfl) rfl rfl (by (try simp only [map_toArray, map_cons, map_nil]); first | done | rfl | (simp only [length_drop, length_take]; rfl)) ?_
         with_reducible refine (impl_MonthDays.calls t362 t364 t365 t379 _ (hT.below (by repeat (first | exact HB.out | exact Below.refl _ _ | apply z2q | apply z0q | apply z1q | refine z3q ?_ GE367.out | refine z3q ?_ GE378.out | refine z3q ?_ GE396.out | refine z3q ?_ GE400.out | refine z3q ?_ GE407.out))) A41.out).mono ?_
         rintro e w' ⟨rfl, ⟨nd, rfl⟩⟩
         refine ⟨_, rfl, ?_⟩
         refine hK.out _ _ ⟨(z7q BK367.out 0).trans rfl, (z7q BK367.out 1).trans rfl, (z7q BK367.out 2).trans rfl⟩ (fun hHeld => ?_)
         clear hK K
         refine norm_ (a' := ?_) ?_ ?_
         rotate_left
         ·show Act.put _ (some 72) _ = _
          simp only [Act.put, setIfInBounds_toArray, set_cons_zero, set_cons_succ, i64_w, i32_w]
          rfl
         refine pure_ (i := 8) (N := some 73) (v := ?_) (a' := ?_) bt13_9 rfl rfl (z10q HT_.out (by kernel_rfl)) (fun _ _ _ h => h) (Or.inl ⟨by rfl, ?_⟩) ?_ ?_
         rotate_left
         ·intro w'
          go_simp
          with_reducible rfl
         rotate_left
         ·simp only [Act.put, setIfInBounds_toArray, set_cons_zero, set_cons_succ, i64_w, i32_w]
          rfl
         refine pure_ (i := 9) (N := some 9) (v := ?_) (a' := ?_) bt13_10 rfl rfl (z10q HT_.out (by kernel_rfl)) (fun _ _ _ h => h) (Or.inl ⟨by rfl, ?_⟩) ?_ ?_
         rotate_left
         ·intro w'
          go_simp
          with_reducible rfl
         rotate_left
         ·simp only [Act.put, setIfInBounds_toArray, set_cons_zero, set_cons_succ, i64_w, i32_w]
          rfl
         refine done_ (done_of HT_.out (by kernel_rfl)) ?_
         have hcz60_0 : w59.cell? ⟨gb378, 0, none⟩ = some (.int .i64 t375) := (z7q BK378.out 0).trans rfl
         have hcz60_1 : w59.cell? ⟨gb378, 1, none⟩ = some (.int .i64 t376) := (z7q BK378.out 1).trans rfl
         have hcz60_2 : w59.cell? ⟨gb378, 2, none⟩ = some (.int .i64 t377) := (z7q BK378.out 2).trans rfl
         have hfz60_0 := z8q BK378.out 0
         have hfz60_1 := z8q BK378.out 1
         have hfz60_2 := z8q BK378.out 2
         try go_wp2_with (first | (go_at_call 19; (with_reducible refine (impl_Weekday.calls (wrap64 (t363 + 1)) t380 _ A51.out).mono ?_); rintro e w' ⟨rfl, ⟨nd, rfl⟩⟩) | (go_at_call 19; (with_reducible refine (impl_Weekday.calls t363 t381 _ A52.out).mono ?_); rintro e w' ⟨rfl, ⟨nd, rfl⟩⟩))
         go_meet
         case rel => exact ⟨_, H', ⟨by have := HJ25.out; first | omega | exact Nat.le_refl _⟩, ⟨by (with_reducible repeat (first | refine z4q ?_ _ | refine z6q ?_ | refine z5q ?_ _)); exact BK367.out⟩, ⟨by repeat (first | (with_reducible first | exact HB.out | apply z2q | apply z0q | apply z1q | refine z3q ?_ GE367.out | refine z3q ?_ GE378.out) | exact HB.out)⟩⟩
        ·rw [if_neg c53] at H
         have c53b0 : (t380 == (Int.tmod (wrap64 (t381 + 1)) 7)) = false := beq_eq_false_iff_ne.mpr c53
         have c53b1 : (t380 != (Int.tmod (wrap64 (t381 + 1)) 7)) = true := bne_iff_ne.mpr c53
         obtain rfl := Option.some.inj H
         try go_wp2_with (first | ((with_reducible refine z9q (f := 17) rfl ?_); refine z17q (some 64) rfl rfl Tryd.func17 (by kernel_rfl) rfl #[.int .i64 t362, .int .i64 (wrap64 (t363 + 1))] rfl (by (try simp only [map_toArray, map_cons, map_nil]); first | done | rfl | (simp only [length_drop, length_take]; rfl)) ?_; (with_reducible refine (impl_DateOf.calls kj25 t362 (wrap64 (t363 + 1)) t375 t376 t377 _ (hT.below (by repeat (first | exact HB.out | exact Below.refl _ _ | apply z2q | apply z0q | apply z1q | refine z3q ?_ GE367.out | refine z3q ?_ GE378.out | refine z3q ?_ GE396.out | refine z3q ?_ GE400.out | refine z3q ?_ GE407.out))) A40.out).mono ?_); rintro e w61 ⟨rfl, hb⟩; refine ⟨_, rfl, ?_⟩; have n0_ := Aside0.mk (z13q (g := gb367) (o := .cells #[.int .i64 t364, .int .i64 t365, .int .i64 t366] 36 (0, 0)) (by (with_reducible repeat (first | refine z4q ?_ _ | refine z6q ?_ | refine z5q ?_ _)); exact BK367.out) hb); have n1_ := Aside0.mk (z11q (by repeat (first | (with_reducible first | exact HB.out | apply z2q | apply z0q | apply z1q | refine z3q ?_ GE367.out) | exact HB.out)) hb); clear BK367; clear HB; have BK367 := n0_; have HB := n1_; clear n0_ n1_; (try clear hb); (try clear hb2); (try clear hk); (try clear hi)) | ((with_reducible refine z22q (N := 8) rfl ?_); refine z20q ?hg (N := 8) ?hd (cs := #[.int .i64 0, .int .i64 0, .int .i64 0]) (t := 36) ?hr ?_; (case hd => rfl); (case hg => rfl); (case hr => first | (go_simp; done) | (go_simp; rfl)); intro gb378 hg w62 hbox hb; have n0_ := Aside0.mk (z13q (g := gb367) (o := .cells #[.int .i64 t364, .int .i64 t365, .int .i64 t366] 36 (0, 0)) (by (with_reducible repeat (first | refine z4q ?_ _ | refine z6q ?_ | refine z5q ?_ _)); exact BK367.out) hb); have n1_ := Aside0.mk (z11q (by repeat (first | (with_reducible first | exact HB.out | apply z2q | apply z0q | apply z1q | refine z3q ?_ GE367.out) | exact HB.out)) hb); have n2_ := Aside0.mk (hbox); have n3_ := Aside0.mk ((by rw [hg]; exact (z12q (by repeat (first | (with_reducible first | exact HB.out | apply z2q | apply z0q | apply z1q | refine z3q ?_ GE367.out) | exact HB.out))) : w.heap.size ≤ gb378)); have n4_ := Aside0.mk ((by rw [hg]; exact (z12q (by repeat (first | (with_reducible first | exact HB.out | apply z2q | apply z0q | apply z1q | refine z3q ?_ GE367.out) | exact HB.out))) : w.heap.size ≤ gb378)); have n5_ := Aside0.mk ((by rw [hg]; exact Nat.ne_of_lt (z21q (g := gb367) (o := .cells #[.int .i64 t364, .int .i64 t365, .int .i64 t366] 36 (0, 0)) (by (with_reducible repeat (first | refine z4q ?_ _ | refine z6q ?_ | refine z5q ?_ _)); exact BK367.out)) : gb367 ≠ gb378)); have n6_ := Aside0.mk ((by rw [hg]; exact Nat.ne_of_gt (z21q (g := gb367) (o := .cells #[.int .i64 t364, .int .i64 t365, .int .i64 t366] 36 (0, 0)) (by (with_reducible repeat (first | refine z4q ?_ _ | refine z6q ?_ | refine z5q ?_ _)); exact BK367.out)) : gb378 ≠ gb367)); clear BK367; clear HB; have BK367 := n0_; have HB := n1_; have BK378 := n2_; have GW378 := n3_; have GE378 := n4_; have NB367_378 := n5_; have NB378_367 := n6_; clear n0_ n1_ n2_ n3_ n4_ n5_ n6_; clear hb hbox hg; have hnb63 := NB378_367.out; have hnc63 := NB367_378.out; have hcz64_0 : w62.cell? ⟨gb378, 0, none⟩ = some (.int .i64 0) := (z7q BK378.out 0).trans rfl; have hcz64_1 : w62.cell? ⟨gb378, 1, none⟩ = some (.int .i64 0) := (z7q BK378.out 1).trans rfl; have hcz64_2 : w62.cell? ⟨gb378, 2, none⟩ = some (.int .i64 0) := (z7q BK378.out 2).trans rfl; have hfz64_0 := z8q BK378.out 0; have hfz64_1 := z8q BK378.out 1; have hfz64_2 := z8q BK378.out 2))
         have n0_ : Aside0 ((((w62.setCell ⟨gb378, 0, none⟩ (.int .i64 t375)).setCell ⟨gb378, 1, none⟩ (.int .i64 t376)).setCell ⟨gb378, 2, none⟩ (.int .i64 t377)).heap[gb367]? = some (.cells #[.int .i64 t364, .int .i64 t365, .int .i64 t366] 36 (0, 0))) := ⟨by (with_reducible repeat (first | refine z4q ?_ _ | refine z6q ?_ | refine z5q ?_ _)); refine z18q ?_ NB367_378.out _; (with_reducible repeat (first | refine z4q ?_ _ | refine z6q ?_ | refine z5q ?_ _)); refine z18q ?_ NB367_378.out _; (with_reducible repeat (first | refine z4q ?_ _ | refine z6q ?_ | refine z5q ?_ _)); refine z18q ?_ NB367_378.out _; (with_reducible repeat (first | refine z4q ?_ _ | refine z6q ?_ | refine z5q ?_ _)); exact BK367.out⟩
         have n1_ : Aside0 ((((w62.setCell ⟨gb378, 0, none⟩ (.int .i64 t375)).setCell ⟨gb378, 1, none⟩ (.int .i64 t376)).setCell ⟨gb378, 2, none⟩ (.int .i64 t377)).heap[gb378]? = some (.cells #[.int .i64 t375, .int .i64 t376, .int .i64 t377] 36 (0, 0))) := ⟨by (with_reducible repeat (first | refine z4q ?_ _ | refine z6q ?_ | refine z5q ?_ _)); refine z14q (cs := #[.int .i64 t375, .int .i64 t376, .int .i64 0]) ?_ 2 _ rfl; (with_reducible repeat (first | refine z4q ?_ _ | refine z6q ?_ | refine z5q ?_ _)); refine z14q (cs := #[.int .i64 t375, .int .i64 0, .int .i64 0]) ?_ 1 _ rfl; (with_reducible repeat (first | refine z4q ?_ _ | refine z6q ?_ | refine z5q ?_ _)); refine z14q (cs := #[.int .i64 0, .int .i64 0, .int .i64 0]) ?_ 0 _ rfl; (with_reducible repeat (first | refine z4q ?_ _ | refine z6q ?_ | refine z5q ?_ _)); exact BK378.out⟩
         have n2_ : Aside0 (Below w.heap.size w (((w62.setCell ⟨gb378, 0, none⟩ (.int .i64 t375)).setCell ⟨gb378, 1, none⟩ (.int .i64 t376)).setCell ⟨gb378, 2, none⟩ (.int .i64 t377))) := ⟨by repeat (first | (with_reducible first | exact HB.out | apply z2q | apply z0q | apply z1q | refine z3q ?_ GE367.out | refine z3q ?_ GE378.out) | exact HB.out)⟩
         (try clear BK367)
         (try clear BK378)
         (try clear HB)
         generalize (((w62.setCell ⟨gb378, 0, none⟩ (.int .i64 t375)).setCell ⟨gb378, 1, none⟩ (.int .i64 t376)).setCell ⟨gb378, 2, none⟩ (.int .i64 t377)) = w65 at n0_ n1_ n2_ ⊢
         have BK367 := n0_
         have BK378 := n1_
         have HB := n2_
         clear n0_ n1_ n2_
         have n0_ := Aside0.mk (z6q BK367.out)
         have n1_ := Aside0.mk (z6q BK378.out)
         have n2_ := Aside0.mk (z1q HB.out)
         clear BK367
         clear BK378
         clear HB
         have BK367 := n0_
         have BK378 := n1_
         have HB := n2_
         clear n0_ n1_ n2_
         refine start_ (n := 10) (S := fun w' => w'.cell? ⟨gb367, 0, none⟩ = some (.int .i64 t364) ∧ w'.cell? ⟨gb367, 1, none⟩ = some (.int .i64 t365) ∧ w'.cell? ⟨gb367, 2, none⟩ = some (.int .i64 t366)) (ds := []) bt13_0 (by kernel_rfl) rfl rfl ⟨(z7q BK367.out 0).trans rfl, (z7q BK367.out 1).trans rfl, (z7q BK367.out 2).trans rfl⟩ (fun hHeld => ?_); refine with_tabW laws_FnDays.tab14 laws_FnDays.bits14 (fun HT_ HW_ => ?_)
         generalize w65.drew = w66 at BK367 BK378 HB hHeld ⊢
         refine pure_ (i := 0) (N := some 65) (v := ?_) (a' := ?_) bt13_1 rfl rfl (z10q HT_.out (by kernel_rfl)) (fun _ _ _ h => h) (Or.inl ⟨by rfl, ?_⟩) ?_ ?_
         rotate_left
         ·intro w'
          go_simp
          with_reducible rfl
         rotate_left
         ·simp only [Act.put, setIfInBounds_toArray, set_cons_zero, set_cons_succ, i64_w, i32_w]
          rfl
         refine pure_ (i := 2) (N := some 67) (v := ?_) (a' := ?_) bt13_2 rfl rfl (z10q HT_.out (by kernel_rfl)) (fun _ _ _ h => h) (Or.inl ⟨by rfl, ?_⟩) ?_ ?_
         rotate_left
         ·intro w'
          go_simp
          with_reducible rfl
         rotate_left
         ·simp only [Act.put, setIfInBounds_toArray, set_cons_zero, set_cons_succ, i64_w, i32_w]
          rfl
         refine pure_ (i := 3) (N := some 68) (v := ?_) (a' := ?_) bt13_3 rfl rfl (z10q HT_.out (by kernel_rfl)) (fun _ _ _ h => h) (Or.inl ⟨by rfl, ?_⟩) ?_ ?_
         rotate_left
         ·intro w'
          go_simp
          with_reducible rfl
         rotate_left
         ·simp only [Act.put, setIfInBounds_toArray, set_cons_zero, set_cons_succ, i64_w, i32_w]
          rfl
         refine pure_ (i := 5) (N := some 70) (v := ?_) (a' := ?_) bt13_4 rfl rfl (z10q HT_.out (by kernel_rfl)) (fun _ _ _ h => h) (Or.inl ⟨by rfl, ?_⟩) ?_ ?_
         rotate_left
         ·intro w'
          go_simp
          with_reducible rfl
         rotate_left
         ·simp only [Act.put, setIfInBounds_toArray, set_cons_zero, set_cons_succ, i64_w, i32_w]
          rfl
         refine take_ (i := 1) (N := some 66) (v := ?_) (a' := ?_) bt13_5 rfl rfl (z23q HT_.out HW_.out (by kernel_rfl)) (fun _ _ _ h => h) (Or.inl ⟨by rfl, ?_⟩) hHeld ?_ ?_
         rotate_left
         ·rintro w' ⟨s0, s1, s2⟩
          go_simp
          with_reducible rfl
         rotate_left
         ·simp only [Act.put, setIfInBounds_toArray, set_cons_zero, set_cons_succ, i64_w, i32_w]
          rfl
         refine take_ (i := 4) (N := some 69) (v := ?_) (a' := ?_) bt13_6 rfl rfl (z23q HT_.out HW_.out (by kernel_rfl)) (fun _ _ _ h => h) (Or.inl ⟨by rfl, ?_⟩) hHeld ?_ ?_
         rotate_left
         ·rintro w' ⟨s0, s1, s2⟩
          go_simp
          with_reducible rfl
         rotate_left
         ·simp only [Act.put, setIfInBounds_toArray, set_cons_zero, set_cons_succ, i64_w, i32_w]
          rfl
         refine take_ (i := 6) (N := some 71) (v := ?_) (a' := ?_) bt13_7 rfl rfl (z23q HT_.out HW_.out (by kernel_rfl)) (fun _ _ _ h => h) (Or.inl ⟨by rfl, ?_⟩) hHeld ?_ ?_
         rotate_left
         ·rintro w' ⟨s0, s1, s2⟩
          go_simp
          with_reducible rfl
         rotate_left
         ·simp only [Act.put, setIfInBounds_toArray, set_cons_zero, set_cons_succ, i64_w, i32_w]
          rfl
         refine one_ (i := 7) (N := some 72) bt13_8 rfl rfl (one_of HT_.out (by kernel_rfl)) (by decide) (fun K hK => ?_)
         refine goes_ Tryd.func22 (by kernel_rfl) rfl #[.int .i64 t362, .int .i64 t364, .int .i64 t365] (by rfl) rfl rfl (by (try simp only [map_toArray, map_cons, map_nil]); first | done | rfl | (simp only [length_drop, length_take]; rfl)) ?_
         with_reducible refine (impl_MonthDays.calls t362 t364 t365 t379 _ (hT.below (by repeat (first | exact HB.out | exact Below.refl _ _ | apply z2q | apply z0q | apply z1q | refine z3q ?_ GE367.out | refine z3q ?_ GE378.out | refine z3q ?_ GE396.out | refine z3q ?_ GE400.out | refine z3q ?_ GE407.out))) A41.out).mono ?_
         rintro e w' ⟨rfl, ⟨nd, rfl⟩⟩
         refine ⟨_, rfl, ?_⟩
         refine hK.out _ _ ⟨(z7q BK367.out 0).trans rfl, (z7q BK367.out 1).trans rfl, (z7q BK367.out 2).trans rfl⟩ (fun hHeld => ?_)
         clear hK K
         refine norm_ (a' := ?_) ?_ ?_
         rotate_left
         ·show Act.put _ (some 72) _ = _
          simp only [Act.put, setIfInBounds_toArray, set_cons_zero, set_cons_succ, i64_w, i32_w]
          rfl
         refine pure_ (i := 8) (N := some 73) (v := ?_) (a' := ?_) bt13_9 rfl rfl (z10q HT_.out (by kernel_rfl)) (fun _ _ _ h => h) (Or.inl ⟨by rfl, ?_⟩) ?_ ?_
         rotate_left
         ·intro w'
          go_simp
          with_reducible rfl
         rotate_left
         ·simp only [Act.put, setIfInBounds_toArray, set_cons_zero, set_cons_succ, i64_w, i32_w]
          rfl
         refine pure_ (i := 9) (N := some 9) (v := ?_) (a' := ?_) bt13_10 rfl rfl (z10q HT_.out (by kernel_rfl)) (fun _ _ _ h => h) (Or.inl ⟨by rfl, ?_⟩) ?_ ?_
         rotate_left
         ·intro w'
          go_simp
          with_reducible rfl
         rotate_left
         ·simp only [Act.put, setIfInBounds_toArray, set_cons_zero, set_cons_succ, i64_w, i32_w]
          rfl
         refine done_ (done_of HT_.out (by kernel_rfl)) ?_
         have hcz67_0 : w66.cell? ⟨gb378, 0, none⟩ = some (.int .i64 t375) := (z7q BK378.out 0).trans rfl
         have hcz67_1 : w66.cell? ⟨gb378, 1, none⟩ = some (.int .i64 t376) := (z7q BK378.out 1).trans rfl
         have hcz67_2 : w66.cell? ⟨gb378, 2, none⟩ = some (.int .i64 t377) := (z7q BK378.out 2).trans rfl
         have hfz67_0 := z8q BK378.out 0
         have hfz67_1 := z8q BK378.out 1
         have hfz67_2 := z8q BK378.out 2
         try go_wp2_with (first | (go_at_call 19; (with_reducible refine (impl_Weekday.calls (wrap64 (t363 + 1)) t380 _ A51.out).mono ?_); rintro e w' ⟨rfl, ⟨nd, rfl⟩⟩) | (go_at_call 19; (with_reducible refine (impl_Weekday.calls t363 t381 _ A52.out).mono ?_); rintro e w' ⟨rfl, ⟨nd, rfl⟩⟩))
         go_ret
         exact ⟨by first | rfl | (simp [errW_none, errW_some] <;> rfl) | (simp [*, errW_none, errW_some] <;> rfl), by repeat (first | (with_reducible first | exact HB.out | apply z2q | apply z0q | apply z1q | refine z3q ?_ GE367.out | refine z3q ?_ GE378.out) | exact HB.out)⟩
       ·rw [if_neg c50] at H
        have c50b0 : (t366 == t379) = false := beq_eq_false_iff_ne.mpr c50
        have c50z : (t377 == 1) = false := by have h_ := c42b0; rw [c50b0] at h_; simpa using h_
        have c50b1 : (t366 != t379) = true := bne_iff_ne.mpr c50
        by_cases c68 : t377 = (wrap64 (t366 + 1))
        ·rw [if_pos c68] at H
         have c68b0 : (t377 == (wrap64 (t366 + 1))) = true := beq_iff_eq.mpr c68
         have c68b1 : (t377 != (wrap64 (t366 + 1))) = false := bne_eq_false_iff_eq.mpr c68
         clear c68
         replace H := Option.bind_eq_some_iff.mp H
         obtain ⟨t382, A690, H⟩ := H
         replace H : ((impl_Weekday.f t363).bind fun t383 => (if t382 = (Int.tmod (wrap64 (t383 + 1)) 7) then (laws_FnDays.j1 kj25 l0 t362 t363 t364 t365 t366) else (some false))) = some r := H
         have A69 := Aside0.mk A690
         clear A690
         replace H := Option.bind_eq_some_iff.mp H
         obtain ⟨t383, A700, H⟩ := H
         replace H : (if t382 = (Int.tmod (wrap64 (t383 + 1)) 7) then (laws_FnDays.j1 kj25 l0 t362 t363 t364 t365 t366) else (some false)) = some r := H
         have A70 := Aside0.mk A700
         clear A700
         by_cases c71 : t382 = (Int.tmod (wrap64 (t383 + 1)) 7)
         ·rw [if_pos c71] at H
          have c71b0 : (t382 == (Int.tmod (wrap64 (t383 + 1)) 7)) = true := beq_iff_eq.mpr c71
          have c71b1 : (t382 != (Int.tmod (wrap64 (t383 + 1)) 7)) = false := bne_eq_false_iff_eq.mpr c71
          clear c71
          have H' := Aside0.mk H
          clear H
          try go_wp2_with (first | ((with_reducible refine z9q (f := 17) rfl ?_); refine z17q (some 64) rfl rfl Tryd.func17 (by kernel_rfl) rfl #[.int .i64 t362, .int .i64 (wrap64 (t363 + 1))] rfl (by (try simp only [map_toArray, map_cons, map_nil]); first | done | rfl | (simp only [length_drop, length_take]; rfl)) ?_; (with_reducible refine (impl_DateOf.calls kj25 t362 (wrap64 (t363 + 1)) t375 t376 t377 _ (hT.below (by repeat (first | exact HB.out | exact Below.refl _ _ | apply z2q | apply z0q | apply z1q | refine z3q ?_ GE367.out | refine z3q ?_ GE378.out | refine z3q ?_ GE396.out | refine z3q ?_ GE400.out | refine z3q ?_ GE407.out))) A40.out).mono ?_); rintro e w72 ⟨rfl, hb⟩; refine ⟨_, rfl, ?_⟩; have n0_ := Aside0.mk (z13q (g := gb367) (o := .cells #[.int .i64 t364, .int .i64 t365, .int .i64 t366] 36 (0, 0)) (by (with_reducible repeat (first | refine z4q ?_ _ | refine z6q ?_ | refine z5q ?_ _)); exact BK367.out) hb); have n1_ := Aside0.mk (z11q (by repeat (first | (with_reducible first | exact HB.out | apply z2q | apply z0q | apply z1q | refine z3q ?_ GE367.out) | exact HB.out)) hb); clear BK367; clear HB; have BK367 := n0_; have HB := n1_; clear n0_ n1_; (try clear hb); (try clear hb2); (try clear hk); (try clear hi)) | ((with_reducible refine z22q (N := 8) rfl ?_); refine z20q ?hg (N := 8) ?hd (cs := #[.int .i64 0, .int .i64 0, .int .i64 0]) (t := 36) ?hr ?_; (case hd => rfl); (case hg => rfl); (case hr => first | (go_simp; done) | (go_simp; rfl)); intro gb378 hg w73 hbox hb; have n0_ := Aside0.mk (z13q (g := gb367) (o := .cells #[.int .i64 t364, .int .i64 t365, .int .i64 t366] 36 (0, 0)) (by (with_reducible repeat (first | refine z4q ?_ _ | refine z6q ?_ | refine z5q ?_ _)); exact BK367.out) hb); have n1_ := Aside0.mk (z11q (by repeat (first | (with_reducible first | exact HB.out | apply z2q | apply z0q | apply z1q | refine z3q ?_ GE367.out) | exact HB.out)) hb); have n2_ := Aside0.mk (hbox); have n3_ := Aside0.mk ((by rw [hg]; exact (z12q (by repeat (first | (with_reducible first | exact HB.out | apply z2q | apply z0q | apply z1q | refine z3q ?_ GE367.out) | exact HB.out))) : w.heap.size ≤ gb378)); have n4_ := Aside0.mk ((by rw [hg]; exact (z12q (by repeat (first | (with_reducible first | exact HB.out | apply z2q | apply z0q | apply z1q | refine z3q ?_ GE367.out) | exact HB.out))) : w.heap.size ≤ gb378)); have n5_ := Aside0.mk ((by rw [hg]; exact Nat.ne_of_lt (z21q (g := gb367) (o := .cells #[.int .i64 t364, .int .i64 t365, .int .i64 t366] 36 (0, 0)) (by (with_reducible repeat (first | refine z4q ?_ _ | refine z6q ?_ | refine z5q ?_ _)); exact BK367.out)) : gb367 ≠ gb378)); have n6_ := Aside0.mk ((by rw [hg]; exact Nat.ne_of_gt (z21q (g := gb367) (o := .cells #[.int .i64 t364, .int .i64 t365, .int .i64 t366] 36 (0, 0)) (by (with_reducible repeat (first | refine z4q ?_ _ | refine z6q ?_ | refine z5q ?_ _)); exact BK367.out)) : gb378 ≠ gb367)); clear BK367; clear HB; have BK367 := n0_; have HB := n1_; have BK378 := n2_; have GW378 := n3_; have GE378 := n4_; have NB367_378 := n5_; have NB378_367 := n6_; clear n0_ n1_ n2_ n3_ n4_ n5_ n6_; clear hb hbox hg; have hnb74 := NB378_367.out; have hnc74 := NB367_378.out; have hcz75_0 : w73.cell? ⟨gb378, 0, none⟩ = some (.int .i64 0) := (z7q BK378.out 0).trans rfl; have hcz75_1 : w73.cell? ⟨gb378, 1, none⟩ = some (.int .i64 0) := (z7q BK378.out 1).trans rfl; have hcz75_2 : w73.cell? ⟨gb378, 2, none⟩ = some (.int .i64 0) := (z7q BK378.out 2).trans rfl; have hfz75_0 := z8q BK378.out 0; have hfz75_1 := z8q BK378.out 1; have hfz75_2 := z8q BK378.out 2))
          have n0_ : Aside0 ((((w73.setCell ⟨gb378, 0, none⟩ (.int .i64 t375)).setCell ⟨gb378, 1, none⟩ (.int .i64 t376)).setCell ⟨gb378, 2, none⟩ (.int .i64 t377)).heap[gb367]? = some (.cells #[.int .i64 t364, .int .i64 t365, .int .i64 t366] 36 (0, 0))) := ⟨by (with_reducible repeat (first | refine z4q ?_ _ | refine z6q ?_ | refine z5q ?_ _)); refine z18q ?_ NB367_378.out _; (with_reducible repeat (first | refine z4q ?_ _ | refine z6q ?_ | refine z5q ?_ _)); refine z18q ?_ NB367_378.out _; (with_reducible repeat (first | refine z4q ?_ _ | refine z6q ?_ | refine z5q ?_ _)); refine z18q ?_ NB367_378.out _; (with_reducible repeat (first | refine z4q ?_ _ | refine z6q ?_ | refine z5q ?_ _)); exact BK367.out⟩
          have n1_ : Aside0 ((((w73.setCell ⟨gb378, 0, none⟩ (.int .i64 t375)).setCell ⟨gb378, 1, none⟩ (.int .i64 t376)).setCell ⟨gb378, 2, none⟩ (.int .i64 t377)).heap[gb378]? = some (.cells #[.int .i64 t375, .int .i64 t376, .int .i64 t377] 36 (0, 0))) := ⟨by (with_reducible repeat (first | refine z4q ?_ _ | refine z6q ?_ | refine z5q ?_ _)); refine z14q (cs := #[.int .i64 t375, .int .i64 t376, .int .i64 0]) ?_ 2 _ rfl; (with_reducible repeat (first | refine z4q ?_ _ | refine z6q ?_ | refine z5q ?_ _)); refine z14q (cs := #[.int .i64 t375, .int .i64 0, .int .i64 0]) ?_ 1 _ rfl; (with_reducible repeat (first | refine z4q ?_ _ | refine z6q ?_ | refine z5q ?_ _)); refine z14q (cs := #[.int .i64 0, .int .i64 0, .int .i64 0]) ?_ 0 _ rfl; (with_reducible repeat (first | refine z4q ?_ _ | refine z6q ?_ | refine z5q ?_ _)); exact BK378.out⟩
          have n2_ : Aside0 (Below w.heap.size w (((w73.setCell ⟨gb378, 0, none⟩ (.int .i64 t375)).setCell ⟨gb378, 1, none⟩ (.int .i64 t376)).setCell ⟨gb378, 2, none⟩ (.int .i64 t377))) := ⟨by repeat (first | (with_reducible first | exact HB.out | apply z2q | apply z0q | apply z1q | refine z3q ?_ GE367.out | refine z3q ?_ GE378.out) | exact HB.out)⟩
          (try clear BK367)
          (try clear BK378)
          (try clear HB)
          generalize (((w73.setCell ⟨gb378, 0, none⟩ (.int .i64 t375)).setCell ⟨gb378, 1, none⟩ (.int .i64 t376)).setCell ⟨gb378, 2, none⟩ (.int .i64 t377)) = w76 at n0_ n1_ n2_ ⊢
          have BK367 := n0_
          have BK378 := n1_
          have HB := n2_
          clear n0_ n1_ n2_
          have n0_ := Aside0.mk (z6q BK367.out)
          have n1_ := Aside0.mk (z6q BK378.out)
          have n2_ := Aside0.mk (z1q HB.out)
          clear BK367
          clear BK378
          clear HB
          have BK367 := n0_
          have BK378 := n1_
          have HB := n2_
          clear n0_ n1_ n2_
          refine start_ (n := 10) (S := fun w' => w'.cell? ⟨gb367, 0, none⟩ = some (.int .i64 t364) ∧ w'.cell? ⟨gb367, 1, none⟩ = some (.int .i64 t365) ∧ w'.cell? ⟨gb367, 2, none⟩ = some (.int .i64 t366)) (ds := []) bt13_0 (by kernel_rfl) rfl rfl ⟨(z7q BK367.out 0).trans rfl, (z7q BK367.out 1).trans rfl, (z7q BK367.out 2).trans rfl⟩ (fun hHeld => ?_); refine with_tabW laws_FnDays.tab14 laws_FnDays.bits14 (fun HT_ HW_ => ?_)
          generalize w76.drew = w77 at BK367 BK378 HB hHeld ⊢
          refine pure_ (i := 0) (N := some 65) (v := ?_) (a' := ?_) bt13_1 rfl rfl (z10q HT_.out (by kernel_rfl)) (fun _ _ _ h => h) (Or.inl ⟨by rfl, ?_⟩) ?_ ?_
          rotate_left
          ·intro w'
           go_simp
           with_reducible rfl
          rotate_left
          ·simp only [Act.put, setIfInBounds_toArray, set_cons_zero, set_cons_succ, i64_w, i32_w]
           rfl
          refine pure_ (i := 2) (N := some 67) (v := ?_) (a' := ?_) bt13_2 rfl rfl (z10q HT_.out (by kernel_rfl)) (fun _ _ _ h => h) (Or.inl ⟨by rfl, ?_⟩) ?_ ?_
          rotate_left
          ·intro w'
           go_simp
           with_reducible rfl
          rotate_left
          ·simp only [Act.put, setIfInBounds_toArray, set_cons_zero, set_cons_succ, i64_w, i32_w]
           rfl
          refine pure_ (i := 3) (N := some 68) (v := ?_) (a' := ?_) bt13_3 rfl rfl (z10q HT_.out (by kernel_rfl)) (fun _ _ _ h => h) (Or.inl ⟨by rfl, ?_⟩) ?_ ?_
          rotate_left
          ·intro w'
           go_simp
           with_reducible rfl
          rotate_left
          ·simp only [Act.put, setIfInBounds_toArray, set_cons_zero, set_cons_succ, i64_w, i32_w]
           rfl
          refine pure_ (i := 5) (N := some 70) (v := ?_) (a' := ?_) bt13_4 rfl rfl (z10q HT_.out (by kernel_rfl)) (fun _ _ _ h => h) (Or.inl ⟨by rfl, ?_⟩) ?_ ?_
          rotate_left
          ·intro w'
           go_simp
           with_reducible rfl
          rotate_left
          ·simp only [Act.put, setIfInBounds_toArray, set_cons_zero, set_cons_succ, i64_w, i32_w]
           rfl
          refine take_ (i := 1) (N := some 66) (v := ?_) (a' := ?_) bt13_5 rfl rfl (z23q HT_.out HW_.out (by kernel_rfl)) (fun _ _ _ h => h) (Or.inl ⟨by rfl, ?_⟩) hHeld ?_ ?_
          rotate_left
          ·rintro w' ⟨s0, s1, s2⟩
           go_simp
           with_reducible rfl
          rotate_left
          ·simp only [Act.put, setIfInBounds_toArray, set_cons_zero, set_cons_succ, i64_w, i32_w]
           rfl
          refine take_ (i := 4) (N := some 69) (v := ?_) (a' := ?_) bt13_6 rfl rfl (z23q HT_.out HW_.out (by kernel_rfl)) (fun _ _ _ h => h) (Or.inl ⟨by rfl, ?_⟩) hHeld ?_ ?_
          rotate_left
          ·rintro w' ⟨s0, s1, s2⟩
           go_simp
           with_reducible rfl
          rotate_left
          ·simp only [Act.put, setIfInBounds_toArray, set_cons_zero, set_cons_succ, i64_w, i32_w]
           rfl
          refine take_ (i := 6) (N := some 71) (v := ?_) (a' := ?_) bt13_7 rfl rfl (z23q HT_.out HW_.out (by kernel_rfl)) (fun _ _ _ h => h) (Or.inl ⟨by rfl, ?_⟩) hHeld ?_ ?_
          rotate_left
          ·rintro w' ⟨s0, s1, s2⟩
           go_simp
           with_reducible rfl
          rotate_left
          ·simp only [Act.put, setIfInBounds_toArray, set_cons_zero, set_cons_succ, i64_w, i32_w]
           rfl
          refine one_ (i := 7) (N := some 72) bt13_8 rfl rfl (one_of HT_.out (by kernel_rfl)) (by decide) (fun K hK => ?_)
          refine goes_ Tryd.func22 (by kernel_rfl) rfl #[.int .i64 t362, .int .i64 t364, .int .i64 t365] (by rfl) rfl rfl (by (try simp only [map_toArray, map_cons, map_nil]); first | done | rfl | (simp only [length_drop, length_take]; rfl)) ?_
          with_reducible refine (impl_MonthDays.calls t362 t364 t365 t379 _ (hT.below (by repeat (first | exact HB.out | exact Below.refl _ _ | apply z2q | apply z0q | apply z1q | refine z3q ?_ GE367.out | refine z3q ?_ GE378.out | refine z3q ?_ GE396.out | refine z3q ?_ GE400.out | refine z3q ?_ GE407.out))) A41.out).mono ?_
          rintro e w' ⟨rfl, ⟨nd, rfl⟩⟩
          refine ⟨_, rfl, ?_⟩
          refine hK.out _ _ ⟨(z7q BK367.out 0).trans rfl, (z7q BK367.out 1).trans rfl, (z7q BK367.out 2).trans rfl⟩ (fun hHeld => ?_)
          clear hK K
          refine norm_ (a' := ?_) ?_ ?_
          rotate_left
          ·show Act.put _ (some 72) _ = _
           simp only [Act.put, setIfInBounds_toArray, set_cons_zero, set_cons_succ, i64_w, i32_w]
           rfl
          refine pure_ (i := 8) (N := some 73) (v := ?_) (a' := ?_) bt13_9 rfl rfl (z10q HT_.out (by kernel_rfl)) (fun _ _ _ h => h) (Or.inl ⟨by rfl, ?_⟩) ?_ ?_
          rotate_left
          ·intro w'
           go_simp
           with_reducible rfl
          rotate_left
          ·simp only [Act.put, setIfInBounds_toArray, set_cons_zero, set_cons_succ, i64_w, i32_w]
           rfl
          refine pure_ (i := 9) (N := some 9) (v := ?_) (a' := ?_) bt13_10 rfl rfl (z10q HT_.out (by kernel_rfl)) (fun _ _ _ h => h) (Or.inl ⟨by rfl, ?_⟩) ?_ ?_
          rotate_left
          ·intro w'
           go_simp
           with_reducible rfl
          rotate_left
          ·simp only [Act.put, setIfInBounds_toArray, set_cons_zero, set_cons_succ, i64_w, i32_w]
           rfl
          refine done_ (done_of HT_.out (by kernel_rfl)) ?_
          have hcz78_0 : w77.cell? ⟨gb378, 0, none⟩ = some (.int .i64 t375) := (z7q BK378.out 0).trans rfl
          have hcz78_1 : w77.cell? ⟨gb378, 1, none⟩ = some (.int .i64 t376) := (z7q BK378.out 1).trans rfl
          have hcz78_2 : w77.cell? ⟨gb378, 2, none⟩ = some (.int .i64 t377) := (z7q BK378.out 2).trans rfl
          have hfz78_0 := z8q BK378.out 0
          have hfz78_1 := z8q BK378.out 1
          have hfz78_2 := z8q BK378.out 2
          have hcz79_0 : w77.cell? ⟨gb367, 0, none⟩ = some (.int .i64 t364) := (z7q BK367.out 0).trans rfl
          have hcz79_1 : w77.cell? ⟨gb367, 1, none⟩ = some (.int .i64 t365) := (z7q BK367.out 1).trans rfl
          have hcz79_2 : w77.cell? ⟨gb367, 2, none⟩ = some (.int .i64 t366) := (z7q BK367.out 2).trans rfl
          have hfz79_0 := z8q BK367.out 0
          have hfz79_1 := z8q BK367.out 1
          have hfz79_2 := z8q BK367.out 2
          try go_wp2_with (first | (go_at_call 19; (with_reducible refine (impl_Weekday.calls (wrap64 (t363 + 1)) t382 _ A69.out).mono ?_); rintro e w' ⟨rfl, ⟨nd, rfl⟩⟩) | (go_at_call 19; (with_reducible refine (impl_Weekday.calls t363 t383 _ A70.out).mono ?_); rintro e w' ⟨rfl, ⟨nd, rfl⟩⟩))
          go_meet
          case rel => exact ⟨_, H', ⟨by have := HJ25.out; first | omega | exact Nat.le_refl _⟩, ⟨by (with_reducible repeat (first | refine z4q ?_ _ | refine z6q ?_ | refine z5q ?_ _)); exact BK367.out⟩, ⟨by repeat (first | (with_reducible first | exact HB.out | apply z2q | apply z0q | apply z1q | refine z3q ?_ GE367.out | refine z3q ?_ GE378.out) | exact HB.out)⟩⟩
         ·rw [if_neg c71] at H
          have c71b0 : (t382 == (Int.tmod (wrap64 (t383 + 1)) 7)) = false := beq_eq_false_iff_ne.mpr c71
          have c71b1 : (t382 != (Int.tmod (wrap64 (t383 + 1)) 7)) = true := bne_iff_ne.mpr c71
          obtain rfl := Option.some.inj H
          try go_wp2_with (first | ((with_reducible refine z9q (f := 17) rfl ?_); refine z17q (some 64) rfl rfl Tryd.func17 (by kernel_rfl) rfl #[.int .i64 t362, .int .i64 (wrap64 (t363 + 1))] rfl (by (try simp only [map_toArray, map_cons, map_nil]); first | done | rfl | (simp only [length_drop, length_take]; rfl)) ?_; (with_reducible refine (impl_DateOf.calls kj25 t362 (wrap64 (t363 + 1)) t375 t376 t377 _ (hT.below (by repeat (first | exact HB.out | exact Below.refl _ _ | apply z2q | apply z0q | apply z1q | refine z3q ?_ GE367.out | refine z3q ?_ GE378.out | refine z3q ?_ GE396.out | refine z3q ?_ GE400.out | refine z3q ?_ GE407.out))) A40.out).mono ?_); rintro e w80 ⟨rfl, hb⟩; refine ⟨_, rfl, ?_⟩; have n0_ := Aside0.mk (z13q (g := gb367) (o := .cells #[.int .i64 t364, .int .i64 t365, .int .i64 t366] 36 (0, 0)) (by (with_reducible repeat (first | refine z4q ?_ _ | refine z6q ?_ | refine z5q ?_ _)); exact BK367.out) hb); have n1_ := Aside0.mk (z11q (by repeat (first | (with_reducible first | exact HB.out | apply z2q | apply z0q | apply z1q | refine z3q ?_ GE367.out) | exact HB.out)) hb); clear BK367; clear HB; have BK367 := n0_; have HB := n1_; clear n0_ n1_; (try clear hb); (try clear hb2); (try clear hk); (try clear hi)) | ((with_reducible refine z22q (N := 8) rfl ?_); refine z20q ?hg (N := 8) ?hd (cs := #[.int .i64 0, .int .i64 0, .int .i64 0]) (t := 36) ?hr ?_; (case hd => rfl); (case hg => rfl); (case hr => first | (go_simp; done) | (go_simp; rfl)); intro gb378 hg w81 hbox hb; have n0_ := Aside0.mk (z13q (g := gb367) (o := .cells #[.int .i64 t364, .int .i64 t365, .int .i64 t366] 36 (0, 0)) (by (with_reducible repeat (first | refine z4q ?_ _ | refine z6q ?_ | refine z5q ?_ _)); exact BK367.out) hb); have n1_ := Aside0.mk (z11q (by repeat (first | (with_reducible first | exact HB.out | apply z2q | apply z0q | apply z1q | refine z3q ?_ GE367.out) | exact HB.out)) hb); have n2_ := Aside0.mk (hbox); have n3_ := Aside0.mk ((by rw [hg]; exact (z12q (by repeat (first | (with_reducible first | exact HB.out | apply z2q | apply z0q | apply z1q | refine z3q ?_ GE367.out) | exact HB.out))) : w.heap.size ≤ gb378)); have n4_ := Aside0.mk ((by rw [hg]; exact (z12q (by repeat (first | (with_reducible first | exact HB.out | apply z2q | apply z0q | apply z1q | refine z3q ?_ GE367.out) | exact HB.out))) : w.heap.size ≤ gb378)); have n5_ := Aside0.mk ((by rw [hg]; exact Nat.ne_of_lt (z21q (g := gb367) (o := .cells #[.int .i64 t364, .int .i64 t365, .int .i64 t366] 36 (0, 0)) (by (with_reducible repeat (first | refine z4q ?_ _ | refine z6q ?_ | refine z5q ?_ _)); exact BK367.out)) : gb367 ≠ gb378)); have n6_ := Aside0.mk ((by rw [hg]; exact Nat.ne_of_gt (z21q (g := gb367) (o := .cells #[.int .i64 t364, .int .i64 t365, .int .i64 t366] 36 (0, 0)) (by (with_reducible repeat (first | refine z4q ?_ _ | refine z6q ?_ | refine z5q ?_ _)); exact BK367.out)) : gb378 ≠ gb367)); clear BK367; clear HB; have BK367 := n0_; have HB := n1_; have BK378 := n2_; have GW378 := n3_; have GE378 := n4_; have NB367_378 := n5_; have NB378_367 := n6_; clear n0_ n1_ n2_ n3_ n4_ n5_ n6_; clear hb hbox hg; have hnb82 := NB378_367.out; have hnc82 := NB367_378.out; have hcz83_0 : w81.cell? ⟨gb378, 0, none⟩ = some (.int .i64 0) := (z7q BK378.out 0).trans rfl; have hcz83_1 : w81.cell? ⟨gb378, 1, none⟩ = some (.int .i64 0) := (z7q BK378.out 1).trans rfl; have hcz83_2 : w81.cell? ⟨gb378, 2, none⟩ = some (.int .i64 0) := (z7q BK378.out 2).trans rfl; have hfz83_0 := z8q BK378.out 0; have hfz83_1 := z8q BK378.out 1; have hfz83_2 := z8q BK378.out 2))
          have n0_ : Aside0 ((((w81.setCell ⟨gb378, 0, none⟩ (.int .i64 t375)).setCell ⟨gb378, 1, none⟩ (.int .i64 t376)).setCell ⟨gb378, 2, none⟩ (.int .i64 t377)).heap[gb367]? = some (.cells #[.int .i64 t364, .int .i64 t365, .int .i64 t366] 36 (0, 0))) := ⟨by (with_reducible repeat (first | refine z4q ?_ _ | refine z6q ?_ | refine z5q ?_ _)); refine z18q ?_ NB367_378.out _; (with_reducible repeat (first | refine z4q ?_ _ | refine z6q ?_ | refine z5q ?_ _)); refine z18q ?_ NB367_378.out _; (with_reducible repeat (first | refine z4q ?_ _ | refine z6q ?_ | refine z5q ?_ _)); refine z18q ?_ NB367_378.out _; (with_reducible repeat (first | refine z4q ?_ _ | refine z6q ?_ | refine z5q ?_ _)); exact BK367.out⟩
          have n1_ : Aside0 ((((w81.setCell ⟨gb378, 0, none⟩ (.int .i64 t375)).setCell ⟨gb378, 1, none⟩ (.int .i64 t376)).setCell ⟨gb378, 2, none⟩ (.int .i64 t377)).heap[gb378]? = some (.cells #[.int .i64 t375, .int .i64 t376, .int .i64 t377] 36 (0, 0))) := ⟨by (with_reducible repeat (first | refine z4q ?_ _ | refine z6q ?_ | refine z5q ?_ _)); refine z14q (cs := #[.int .i64 t375, .int .i64 t376, .int .i64 0]) ?_ 2 _ rfl; (with_reducible repeat (first | refine z4q ?_ _ | refine z6q ?_ | refine z5q ?_ _)); refine z14q (cs := #[.int .i64 t375, .int .i64 0, .int .i64 0]) ?_ 1 _ rfl; (with_reducible repeat (first | refine z4q ?_ _ | refine z6q ?_ | refine z5q ?_ _)); refine z14q (cs := #[.int .i64 0, .int .i64 0, .int .i64 0]) ?_ 0 _ rfl; (with_reducible repeat (first | refine z4q ?_ _ | refine z6q ?_ | refine z5q ?_ _)); exact BK378.out⟩
          have n2_ : Aside0 (Below w.heap.size w (((w81.setCell ⟨gb378, 0, none⟩ (.int .i64 t375)).setCell ⟨gb378, 1, none⟩ (.int .i64 t376)).setCell ⟨gb378, 2, none⟩ (.int .i64 t377))) := ⟨by repeat (first | (with_reducible first | exact HB.out | apply z2q | apply z0q | apply z1q | refine z3q ?_ GE367.out | refine z3q ?_ GE378.out) | exact HB.out)⟩
          (try clear BK367)
          (try clear BK378)
          (try clear HB)
          generalize (((w81.setCell ⟨gb378, 0, none⟩ (.int .i64 t375)).setCell ⟨gb378, 1, none⟩ (.int .i64 t376)).setCell ⟨gb378, 2, none⟩ (.int .i64 t377)) = w84 at n0_ n1_ n2_ ⊢
          have BK367 := n0_
          have BK378 := n1_
          have HB := n2_
          clear n0_ n1_ n2_
          have n0_ := Aside0.mk (z6q BK367.out)
          have n1_ := Aside0.mk (z6q BK378.out)
          have n2_ := Aside0.mk (z1q HB.out)
          clear BK367
          clear BK378
          clear HB
          have BK367 := n0_
          have BK378 := n1_
          have HB := n2_
          clear n0_ n1_ n2_
          refine start_ (n := 10) (S := fun w' => w'.cell? ⟨gb367, 0, none⟩ = some (.int .i64 t364) ∧ w'.cell? ⟨gb367, 1, none⟩ = some (.int .i64 t365) ∧ w'.cell? ⟨gb367, 2, none⟩ = some (.int .i64 t366)) (ds := []) bt13_0 (by kernel_rfl) rfl rfl ⟨(z7q BK367.out 0).trans rfl, (z7q BK367.out 1).trans rfl, (z7q BK367.out 2).trans rfl⟩ (fun hHeld => ?_); refine with_tabW laws_FnDays.tab14 laws_FnDays.bits14 (fun HT_ HW_ => ?_)
          generalize w84.drew = w85 at BK367 BK378 HB hHeld ⊢
          refine pure_ (i := 0) (N := some 65) (v := ?_) (a' := ?_) bt13_1 rfl rfl (z10q HT_.out (by kernel_rfl)) (fun _ _ _ h => h) (Or.inl ⟨by rfl, ?_⟩) ?_ ?_
          rotate_left
          ·intro w'
           go_simp
           with_reducible rfl
          rotate_left
          ·simp only [Act.put, setIfInBounds_toArray, set_cons_zero, set_cons_succ, i64_w, i32_w]
           rfl
          refine pure_ (i := 2) (N := some 67) (v := ?_) (a' := ?_) bt13_2 rfl rfl (z10q HT_.out (by kernel_rfl)) (fun _ _ _ h => h) (Or.inl ⟨by rfl, ?_⟩) ?_ ?_
          rotate_left
          ·intro w'
           go_simp
           with_reducible rfl
          rotate_left
          ·simp only [Act.put, setIfInBounds_toArray, set_cons_zero, set_cons_succ, i64_w, i32_w]
           rfl
          refine pure_ (i := 3) (N := some 68) (v := ?_) (a' := ?_) bt13_3 rfl rfl (z10q HT_.out (by kernel_rfl)) (fun _ _ _ h => h) (Or.inl ⟨by rfl, ?_⟩) ?_ ?_
          rotate_left
          ·intro w'
           go_simp
           with_reducible rfl
          rotate_left
          ·simp only [Act.put, setIfInBounds_toArray, set_cons_zero, set_cons_succ, i64_w, i32_w]
           rfl
          refine pure_ (i := 5) (N := some 70) (v := ?_) (a' := ?_) bt13_4 rfl rfl (z10q HT_.out (by kernel_rfl)) (fun _ _ _ h => h) (Or.inl ⟨by rfl, ?_⟩) ?_ ?_
          rotate_left
          ·intro w'
           go_simp
           with_reducible rfl
          rotate_left
          ·simp only [Act.put, setIfInBounds_toArray, set_cons_zero, set_cons_succ, i64_w, i32_w]
           rfl
          refine take_ (i := 1) (N := some 66) (v := ?_) (a' := ?_) bt13_5 rfl rfl (z23q HT_.out HW_.out (by kernel_rfl)) (fun _ _ _ h => h) (Or.inl ⟨by rfl, ?_⟩) hHeld ?_ ?_
          rotate_left
          ·rintro w' ⟨s0, s1, s2⟩
           go_simp
           with_reducible rfl
          rotate_left
          ·simp only [Act.put, setIfInBounds_toArray, set_cons_zero, set_cons_succ, i64_w, i32_w]
           rfl
          refine take_ (i := 4) (N := some 69) (v := ?_) (a' := ?_) bt13_6 rfl rfl (z23q HT_.out HW_.out (by kernel_rfl)) (fun _ _ _ h => h) (Or.inl ⟨by rfl, ?_⟩) hHeld ?_ ?_
          rotate_left
          ·rintro w' ⟨s0, s1, s2⟩
           go_simp
           with_reducible rfl
          rotate_left
          ·simp only [Act.put, setIfInBounds_toArray, set_cons_zero, set_cons_succ, i64_w, i32_w]
           rfl
          refine take_ (i := 6) (N := some 71) (v := ?_) (a' := ?_) bt13_7 rfl rfl (z23q HT_.out HW_.out (by kernel_rfl)) (fun _ _ _ h => h) (Or.inl ⟨by rfl, ?_⟩) hHeld ?_ ?_
          rotate_left
          ·rintro w' ⟨s0, s1, s2⟩
           go_simp
           with_reducible rfl
          rotate_left
          ·simp only [Act.put, setIfInBounds_toArray, set_cons_zero, set_cons_succ, i64_w, i32_w]
           rfl
          refine one_ (i := 7) (N := some 72) bt13_8 rfl rfl (one_of HT_.out (by kernel_rfl)) (by decide) (fun K hK => ?_)
          refine goes_ Tryd.func22 (by kernel_rfl) rfl #[.int .i64 t362, .int .i64 t364, .int .i64 t365] (by rfl) rfl rfl (by (try simp only [map_toArray, map_cons, map_nil]); first | done | rfl | (simp only [length_drop, length_take]; rfl)) ?_
          with_reducible refine (impl_MonthDays.calls t362 t364 t365 t379 _ (hT.below (by repeat (first | exact HB.out | exact Below.refl _ _ | apply z2q | apply z0q | apply z1q | refine z3q ?_ GE367.out | refine z3q ?_ GE378.out | refine z3q ?_ GE396.out | refine z3q ?_ GE400.out | refine z3q ?_ GE407.out))) A41.out).mono ?_
          rintro e w' ⟨rfl, ⟨nd, rfl⟩⟩
          refine ⟨_, rfl, ?_⟩
          refine hK.out _ _ ⟨(z7q BK367.out 0).trans rfl, (z7q BK367.out 1).trans rfl, (z7q BK367.out 2).trans rfl⟩ (fun hHeld => ?_)
          clear hK K
          refine norm_ (a' := ?_) ?_ ?_
          rotate_left
          ·show Act.put _ (some 72) _ = _
           simp only [Act.put, setIfInBounds_toArray, set_cons_zero, set_cons_succ, i64_w, i32_w]
           rfl
          refine pure_ (i := 8) (N := some 73) (v := ?_) (a' := ?_) bt13_9 rfl rfl (z10q HT_.out (by kernel_rfl)) (fun _ _ _ h => h) (Or.inl ⟨by rfl, ?_⟩) ?_ ?_
          rotate_left
          ·intro w'
           go_simp
           with_reducible rfl
          rotate_left
          ·simp only [Act.put, setIfInBounds_toArray, set_cons_zero, set_cons_succ, i64_w, i32_w]
           rfl
          refine pure_ (i := 9) (N := some 9) (v := ?_) (a' := ?_) bt13_10 rfl rfl (z10q HT_.out (by kernel_rfl)) (fun _ _ _ h => h) (Or.inl ⟨by rfl, ?_⟩) ?_ ?_
          rotate_left
          ·intro w'
           go_simp
           with_reducible rfl
          rotate_left
          ·simp only [Act.put, setIfInBounds_toArray, set_cons_zero, set_cons_succ, i64_w, i32_w]
           rfl
          refine done_ (done_of HT_.out (by kernel_rfl)) ?_
          have hcz86_0 : w85.cell? ⟨gb378, 0, none⟩ = some (.int .i64 t375) := (z7q BK378.out 0).trans rfl
          have hcz86_1 : w85.cell? ⟨gb378, 1, none⟩ = some (.int .i64 t376) := (z7q BK378.out 1).trans rfl
          have hcz86_2 : w85.cell? ⟨gb378, 2, none⟩ = some (.int .i64 t377) := (z7q BK378.out 2).trans rfl
          have hfz86_0 := z8q BK378.out 0
          have hfz86_1 := z8q BK378.out 1
          have hfz86_2 := z8q BK378.out 2
          have hcz87_0 : w85.cell? ⟨gb367, 0, none⟩ = some (.int .i64 t364) := (z7q BK367.out 0).trans rfl
          have hcz87_1 : w85.cell? ⟨gb367, 1, none⟩ = some (.int .i64 t365) := (z7q BK367.out 1).trans rfl
          have hcz87_2 : w85.cell? ⟨gb367, 2, none⟩ = some (.int .i64 t366) := (z7q BK367.out 2).trans rfl
          have hfz87_0 := z8q BK367.out 0
          have hfz87_1 := z8q BK367.out 1
          have hfz87_2 := z8q BK367.out 2
          try go_wp2_with (first | (go_at_call 19; (with_reducible refine (impl_Weekday.calls (wrap64 (t363 + 1)) t382 _ A69.out).mono ?_); rintro e w' ⟨rfl, ⟨nd, rfl⟩⟩) | (go_at_call 19; (with_reducible refine (impl_Weekday.calls t363 t383 _ A70.out).mono ?_); rintro e w' ⟨rfl, ⟨nd, rfl⟩⟩))
          go_ret
          exact ⟨by first | rfl | (simp [errW_none, errW_some] <;> rfl) | (simp [*, errW_none, errW_some] <;> rfl), by repeat (first | (with_reducible first | exact HB.out | apply z2q | apply z0q | apply z1q | refine z3q ?_ GE367.out | refine z3q ?_ GE378.out) | exact HB.out)⟩
        ·rw [if_neg c68] at H
         have c68b0 : (t377 == (wrap64 (t366 + 1))) = false := beq_eq_false_iff_ne.mpr c68
         have c68b1 : (t377 != (wrap64 (t366 + 1))) = true := bne_iff_ne.mpr c68
         obtain rfl := Option.some.inj H
         try go_wp2_with (first | ((with_reducible refine z9q (f := 17) rfl ?_); refine z17q (some 64) rfl rfl Tryd.func17 (by kernel_rfl) rfl #[.int .i64 t362, .int .i64 (wrap64 (t363 + 1))] rfl (by (try simp only [map_toArray, map_cons, map_nil]); first | done | rfl | (simp only [length_drop, length_take]; rfl)) ?_; (with_reducible refine (impl_DateOf.calls kj25 t362 (wrap64 (t363 + 1)) t375 t376 t377 _ (hT.below (by repeat (first | exact HB.out | exact Below.refl _ _ | apply z2q | apply z0q | apply z1q | refine z3q ?_ GE367.out | refine z3q ?_ GE378.out | refine z3q ?_ GE396.out | refine z3q ?_ GE400.out | refine z3q ?_ GE407.out))) A40.out).mono ?_); rintro e w88 ⟨rfl, hb⟩; refine ⟨_, rfl, ?_⟩; have n0_ := Aside0.mk (z13q (g := gb367) (o := .cells #[.int .i64 t364, .int .i64 t365, .int .i64 t366] 36 (0, 0)) (by (with_reducible repeat (first | refine z4q ?_ _ | refine z6q ?_ | refine z5q ?_ _)); exact BK367.out) hb); have n1_ := Aside0.mk (z11q (by repeat (first | (with_reducible first | exact HB.out | apply z2q | apply z0q | apply z1q | refine z3q ?_ GE367.out) | exact HB.out)) hb); clear BK367; clear HB; have BK367 := n0_; have HB := n1_; clear n0_ n1_; (try clear hb); (try clear hb2); (try clear hk); (try clear hi)) | ((with_reducible refine z22q (N := 8) rfl ?_); refine z20q ?hg (N := 8) ?hd (cs := #[.int .i64 0, .int .i64 0, .int .i64 0]) (t := 36) ?hr ?_; (case hd => rfl); (case hg => rfl); (case hr => first | (go_simp; done) | (go_simp; rfl)); intro gb378 hg w89 hbox hb; have n0_ := Aside0.mk (z13q (g := gb367) (o := .cells #[.int .i64 t364, .int .i64 t365, .int .i64 t366] 36 (0, 0)) (by (with_reducible repeat (first | refine z4q ?_ _ | refine z6q ?_ | refine z5q ?_ _)); exact BK367.out) hb); have n1_ := Aside0.mk (z11q (by repeat (first | (with_reducible first | exact HB.out | apply z2q | apply z0q | apply z1q | refine z3q ?_ GE367.out) | exact HB.out)) hb); have n2_ := Aside0.mk (hbox); have n3_ := Aside0.mk ((by rw [hg]; exact (z12q (by repeat (first | (with_reducible first | exact HB.out | apply z2q | apply z0q | apply z1q | refine z3q ?_ GE367.out) | exact HB.out))) : w.heap.size ≤ gb378)); have n4_ := Aside0.mk ((by rw [hg]; exact (z12q (by repeat (first | (with_reducible first | exact HB.out | apply z2q | apply z0q | apply z1q | refine z3q ?_ GE367.out) | exact HB.out))) : w.heap.size ≤ gb378)); have n5_ := Aside0.mk ((by rw [hg]; exact Nat.ne_of_lt (z21q (g := gb367) (o := .cells #[.int .i64 t364, .int .i64 t365, .int .i64 t366] 36 (0, 0)) (by (with_reducible repeat (first | refine z4q ?_ _ | refine z6q ?_ | refine z5q ?_ _)); exact BK367.out)) : gb367 ≠ gb378)); have n6_ := Aside0.mk ((by rw [hg]; exact Nat.ne_of_gt (z21q (g := gb367) (o := .cells #[.int .i64 t364, .int .i64 t365, .int .i64 t366] 36 (0, 0)) (by (with_reducible repeat (first | refine z4q ?_ _ | refine z6q ?_ | refine z5q ?_ _)); exact BK367.out)) : gb378 ≠ gb367)); clear BK367; clear HB; have BK367 := n0_; have HB := n1_; have BK378 := n2_; have GW378 := n3_; have GE378 := n4_; have NB367_378 := n5_; have NB378_367 := n6_; clear n0_ n1_ n2_ n3_ n4_ n5_ n6_; clear hb hbox hg; have hnb90 := NB378_367.out; have hnc90 := NB367_378.out; have hcz91_0 : w89.cell? ⟨gb378, 0, none⟩ = some (.int .i64 0) := (z7q BK378.out 0).trans rfl; have hcz91_1 : w89.cell? ⟨gb378, 1, none⟩ = some (.int .i64 0) := (z7q BK378.out 1).trans rfl; have hcz91_2 : w89.cell? ⟨gb378, 2, none⟩ = some (.int .i64 0) := (z7q BK378.out 2).trans rfl; have hfz91_0 := z8q BK378.out 0; have hfz91_1 := z8q BK378.out 1; have hfz91_2 := z8q BK378.out 2))
         have n0_ : Aside0 ((((w89.setCell ⟨gb378, 0, none⟩ (.int .i64 t375)).setCell ⟨gb378, 1, none⟩ (.int .i64 t376)).setCell ⟨gb378, 2, none⟩ (.int .i64 t377)).heap[gb367]? = some (.cells #[.int .i64 t364, .int .i64 t365, .int .i64 t366] 36 (0, 0))) := ⟨by (with_reducible repeat (first | refine z4q ?_ _ | refine z6q ?_ | refine z5q ?_ _)); refine z18q ?_ NB367_378.out _; (with_reducible repeat (first | refine z4q ?_ _ | refine z6q ?_ | refine z5q ?_ _)); refine z18q ?_ NB367_378.out _; (with_reducible repeat (first | refine z4q ?_ _ | refine z6q ?_ | refine z5q ?_ _)); refine z18q ?_ NB367_378.out _; (with_reducible repeat (first | refine z4q ?_ _ | refine z6q ?_ | refine z5q ?_ _)); exact BK367.out⟩
         have n1_ : Aside0 ((((w89.setCell ⟨gb378, 0, none⟩ (.int .i64 t375)).setCell ⟨gb378, 1, none⟩ (.int .i64 t376)).setCell ⟨gb378, 2, none⟩ (.int .i64 t377)).heap[gb378]? = some (.cells #[.int .i64 t375, .int .i64 t376, .int .i64 t377] 36 (0, 0))) := ⟨by (with_reducible repeat (first | refine z4q ?_ _ | refine z6q ?_ | refine z5q ?_ _)); refine z14q (cs := #[.int .i64 t375, .int .i64 t376, .int .i64 0]) ?_ 2 _ rfl; (with_reducible repeat (first | refine z4q ?_ _ | refine z6q ?_ | refine z5q ?_ _)); refine z14q (cs := #[.int .i64 t375, .int .i64 0, .int .i64 0]) ?_ 1 _ rfl; (with_reducible repeat (first | refine z4q ?_ _ | refine z6q ?_ | refine z5q ?_ _)); refine z14q (cs := #[.int .i64 0, .int .i64 0, .int .i64 0]) ?_ 0 _ rfl; (with_reducible repeat (first | refine z4q ?_ _ | refine z6q ?_ | refine z5q ?_ _)); exact BK378.out⟩
         have n2_ : Aside0 (Below w.heap.size w (((w89.setCell ⟨gb378, 0, none⟩ (.int .i64 t375)).setCell ⟨gb378, 1, none⟩ (.int .i64 t376)).setCell ⟨gb378, 2, none⟩ (.int .i64 t377))) := ⟨by repeat (first | (with_reducible first | exact HB.out | apply z2q | apply z0q | apply z1q | refine z3q ?_ GE367.out | refine z3q ?_ GE378.out) | exact HB.out)⟩
         (try clear BK367)
         (try clear BK378)
         (try clear HB)
         generalize (((w89.setCell ⟨gb378, 0, none⟩ (.int .i64 t375)).setCell ⟨gb378, 1, none⟩ (.int .i64 t376)).setCell ⟨gb378, 2, none⟩ (.int .i64 t377)) = w92 at n0_ n1_ n2_ ⊢
         have BK367 := n0_
         have BK378 := n1_
         have HB := n2_
         clear n0_ n1_ n2_
         have n0_ := Aside0.mk (z6q BK367.out)
         have n1_ := Aside0.mk (z6q BK378.out)
         have n2_ := Aside0.mk (z1q HB.out)
         clear BK367
         clear BK378
         clear HB
         have BK367 := n0_
         have BK378 := n1_
         have HB := n2_
         clear n0_ n1_ n2_
         refine start_ (n := 10) (S := fun w' => w'.cell? ⟨gb367, 0, none⟩ = some (.int .i64 t364) ∧ w'.cell? ⟨gb367, 1, none⟩ = some (.int .i64 t365) ∧ w'.cell? ⟨gb367, 2, none⟩ = some (.int .i64 t366)) (ds := []) bt13_0 (by kernel_rfl) rfl rfl ⟨(z7q BK367.out 0).trans rfl, (z7q BK367.out 1).trans rfl, (z7q BK367.out 2).trans rfl⟩ (fun hHeld => ?_); refine with_tabW laws_FnDays.tab14 laws_FnDays.bits14 (fun HT_ HW_ => ?_)
         generalize w92.drew = w93 at BK367 BK378 HB hHeld ⊢
         refine pure_ (i := 0) (N := some 65) (v := ?_) (a' := ?_) bt13_1 rfl rfl (z10q HT_.out (by kernel_rfl)) (fun _ _ _ h => h) (Or.inl ⟨by rfl, ?_⟩) ?_ ?_
         rotate_left
         ·intro w'
          go_simp
          with_reducible rfl
         rotate_left
         ·simp only [Act.put, setIfInBounds_toArray, set_cons_zero, set_cons_succ, i64_w, i32_w]
          rfl
         refine pure_ (i := 2) (N := some 67) (v := ?_) (a' := ?_) bt13_2 rfl rfl (z10q HT_.out (by kernel_rfl)) (fun _ _ _ h => h) (Or.inl ⟨by rfl, ?_⟩) ?_ ?_
         rotate_left
         ·intro w'
          go_simp
          with_reducible rfl
         rotate_left
         ·simp only [Act.put, setIfInBounds_toArray, set_cons_zero, set_cons_succ, i64_w, i32_w]
          rfl
         refine pure_ (i := 3) (N := some 68) (v := ?_) (a' := ?_) bt13_3 rfl rfl (z10q HT_.out (by kernel_rfl)) (fun _ _ _ h => h) (Or.inl ⟨by rfl, ?_⟩) ?_ ?_
         rotate_left
         ·intro w'
          go_simp
          with_reducible rfl
         rotate_left
         ·simp only [Act.put, setIfInBounds_toArray, set_cons_zero, set_cons_succ, i64_w, i32_w]
          rfl
         refine pure_ (i := 5) (N := some 70) (v := ?_) (a' := ?_) bt13_4 rfl rfl (z10q HT_.out (by kernel_rfl)) (fun _ _ _ h => h) (Or.inl ⟨by rfl, ?_⟩) ?_ ?_
         rotate_left
         ·intro w'
          go_simp
          with_reducible rfl
         rotate_left
         ·simp only [Act.put, setIfInBounds_toArray, set_cons_zero, set_cons_succ, i64_w, i32_w]
          rfl
         refine take_ (i := 1) (N := some 66) (v := ?_) (a' := ?_) bt13_5 rfl rfl (z23q HT_.out HW_.out (by kernel_rfl)) (fun _ _ _ h => h) (Or.inl ⟨by rfl, ?_⟩) hHeld ?_ ?_
         rotate_left
         ·rintro w' ⟨s0, s1, s2⟩
          go_simp
          with_reducible rfl
         rotate_left
         ·simp only [Act.put, setIfInBounds_toArray, set_cons_zero, set_cons_succ, i64_w, i32_w]
          rfl
         refine take_ (i := 4) (N := some 69) (v := ?_) (a' := ?_) bt13_6 rfl rfl (z23q HT_.out HW_.out (by kernel_rfl)) (fun _ _ _ h => h) (Or.inl ⟨by rfl, ?_⟩) hHeld ?_ ?_
         rotate_left
         ·rintro w' ⟨s0, s1, s2⟩
          go_simp
          with_reducible rfl
         rotate_left
         ·simp only [Act.put, setIfInBounds_toArray, set_cons_zero, set_cons_succ, i64_w, i32_w]
          rfl
         refine take_ (i := 6) (N := some 71) (v := ?_) (a' := ?_) bt13_7 rfl rfl (z23q HT_.out HW_.out (by kernel_rfl)) (fun _ _ _ h => h) (Or.inl ⟨by rfl, ?_⟩) hHeld ?_ ?_
         rotate_left
         ·rintro w' ⟨s0, s1, s2⟩
          go_simp
          with_reducible rfl
         rotate_left
         ·simp only [Act.put, setIfInBounds_toArray, set_cons_zero, set_cons_succ, i64_w, i32_w]
          rfl
         refine one_ (i := 7) (N := some 72) bt13_8 rfl rfl (one_of HT_.out (by kernel_rfl)) (by decide) (fun K hK => ?_)
         refine goes_ Tryd.func22 (by kernel_rfl) rfl #[.int .i64 t362, .int .i64 t364, .int .i64 t365] (by rfl) rfl rfl (by (try simp only [map_toArray, map_cons, map_nil]); first | done | rfl | (simp only [length_drop, length_take]; rfl)) ?_
         with_reducible refine (impl_MonthDays.calls t362 t364 t365 t379 _ (hT.below (by repeat (first | exact HB.out | exact Below.refl _ _ | apply z2q | apply z0q | apply z1q | refine z3q ?_ GE367.out | refine z3q ?_ GE378.out | refine z3q ?_ GE396.out | refine z3q ?_ GE400.out | refine z3q ?_ GE407.out))) A41.out).mono ?_
         rintro e w' ⟨rfl, ⟨nd, rfl⟩⟩
         refine ⟨_, rfl, ?_⟩
         refine hK.out _ _ ⟨(z7q BK367.out 0).trans rfl, (z7q BK367.out 1).trans rfl, (z7q BK367.out 2).trans rfl⟩ (fun hHeld => ?_)
         clear hK K
         refine norm_ (a' := ?_) ?_ ?_
         rotate_left
         ·show Act.put _ (some 72) _ = _
          simp only [Act.put, setIfInBounds_toArray, set_cons_zero, set_cons_succ, i64_w, i32_w]
          rfl
         refine pure_ (i := 8) (N := some 73) (v := ?_) (a' := ?_) bt13_9 rfl rfl (z10q HT_.out (by kernel_rfl)) (fun _ _ _ h => h) (Or.inl ⟨by rfl, ?_⟩) ?_ ?_
         rotate_left
         ·intro w'
          go_simp
          with_reducible rfl
         rotate_left
         ·simp only [Act.put, setIfInBounds_toArray, set_cons_zero, set_cons_succ, i64_w, i32_w]
          rfl
         refine pure_ (i := 9) (N := some 9) (v := ?_) (a' := ?_) bt13_10 rfl rfl (z10q HT_.out (by kernel_rfl)) (fun _ _ _ h => h) (Or.inl ⟨by rfl, ?_⟩) ?_ ?_
         rotate_left
         ·intro w'
          go_simp
          with_reducible rfl
         rotate_left
         ·simp only [Act.put, setIfInBounds_toArray, set_cons_zero, set_cons_succ, i64_w, i32_w]
          rfl
         refine done_ (done_of HT_.out (by kernel_rfl)) ?_
         have hcz94_0 : w93.cell? ⟨gb378, 0, none⟩ = some (.int .i64 t375) := (z7q BK378.out 0).trans rfl
         have hcz94_1 : w93.cell? ⟨gb378, 1, none⟩ = some (.int .i64 t376) := (z7q BK378.out 1).trans rfl
         have hcz94_2 : w93.cell? ⟨gb378, 2, none⟩ = some (.int .i64 t377) := (z7q BK378.out 2).trans rfl
         have hfz94_0 := z8q BK378.out 0
         have hfz94_1 := z8q BK378.out 1
         have hfz94_2 := z8q BK378.out 2
         have hcz95_0 : w93.cell? ⟨gb367, 0, none⟩ = some (.int .i64 t364) := (z7q BK367.out 0).trans rfl
         have hcz95_1 : w93.cell? ⟨gb367, 1, none⟩ = some (.int .i64 t365) := (z7q BK367.out 1).trans rfl
         have hcz95_2 : w93.cell? ⟨gb367, 2, none⟩ = some (.int .i64 t366) := (z7q BK367.out 2).trans rfl
         have hfz95_0 := z8q BK367.out 0
         have hfz95_1 := z8q BK367.out 1
         have hfz95_2 := z8q BK367.out 2
         try go_wp2
         go_ret
         exact ⟨by first | rfl | (simp [errW_none, errW_some] <;> rfl) | (simp [*, errW_none, errW_some] <;> rfl), by repeat (first | (with_reducible first | exact HB.out | apply z2q | apply z0q | apply z1q | refine z3q ?_ GE367.out | refine z3q ?_ GE378.out) | exact HB.out)⟩
     ·rw [if_neg c39] at H
      have c39b0 : decide (t363 < 1000000) = false := decide_eq_false c39
      clear c39
      (first | rw [c39b0] | (simp only [i64_w, i32_w]; rw [c39b0]) | skip)
      have H' := Aside0.mk H
      clear H
      go_wp2
      go_meet
      case rel => exact ⟨_, H', ⟨by have := HJ25.out; first | omega | exact Nat.le_refl _⟩, ⟨by (with_reducible repeat (first | refine z4q ?_ _ | refine z6q ?_ | refine z5q ?_ _)); exact BK367.out⟩, ⟨by repeat (first | (with_reducible first | exact HB.out | apply z2q | apply z0q | apply z1q | refine z3q ?_ GE367.out) | exact HB.out)⟩⟩
    case rest =>
     clear HC38
     try clear c1
     try clear c2
     try clear p2
     try clear c3
     try clear c5
     try clear c6
     try clear p6
     try clear c7
     try clear c8
     try clear c9
     try clear c17
     try clear c22
     try clear c39
     try clear c39b0
     try clear c50
     try clear c50b0
     try clear c50b1
     try clear c53
     try clear c53b0
     try clear c53b1
     try clear c63
     try clear p64
     try clear c68
     try clear c68b0
     try clear c68b1
     try clear c71
     try clear c71b0
     try clear c71b1
     try clear c74
     try clear c82
     try clear c90
     try clear hcz60_0
     try clear hcz60_1
     try clear hcz60_2
     try clear hcz64_0
     try clear hcz64_1
     try clear hcz64_2
     try clear hcz67_0
     try clear hcz67_1
     try clear hcz67_2
     try clear hcz75_0
     try clear hcz75_1
     try clear hcz75_2
     try clear hcz78_0
     try clear hcz78_1
     try clear hcz78_2
     try clear hcz79_0
     try clear hcz79_1
     try clear hcz79_2
     try clear hcz83_0
     try clear hcz83_1
     try clear hcz83_2
     try clear hcz86_0
     try clear hcz86_1
     try clear hcz86_2
     try clear hcz87_0
     try clear hcz87_1
     try clear hcz87_2
     try clear hcz91_0
     try clear hcz91_1
     try clear hcz91_2
     try clear hcz94_0
     try clear hcz94_1
     try clear hcz94_2
     try clear hcz95_0
     try clear hcz95_1
     try clear hcz95_2
     try clear hfz60_0
     try clear hfz60_1
     try clear hfz60_2
     try clear hfz64_0
     try clear hfz64_1
     try clear hfz64_2
     try clear hfz67_0
     try clear hfz67_1
     try clear hfz67_2
     try clear hfz75_0
     try clear hfz75_1
     try clear hfz75_2
     try clear hfz78_0
     try clear hfz78_1
     try clear hfz78_2
     try clear hfz79_0
     try clear hfz79_1
     try clear hfz79_2
     try clear hfz83_0
     try clear hfz83_1
     try clear hfz83_2
     try clear hfz86_0
     try clear hfz86_1
     try clear hfz86_2
     try clear hfz87_0
     try clear hfz87_1
     try clear hfz87_2
     try clear hfz91_0
     try clear hfz91_1
     try clear hfz91_2
     try clear hfz94_0
     try clear hfz94_1
     try clear hfz94_2
     try clear hfz95_0
     try clear hfz95_1
     try clear hfz95_2
     obtain ⟨kq, HA, HJ37, BK367, HB⟩ := hcut
     cases kq with
     | zero => exact absurd HA.out (by simp [laws_FnDays.j1])
     | succ kj37 =>
      have H := HA.out
      clear HA
      simp only [laws_FnDays.j1] at H
      replace H := Option.bind_eq_some_iff.mp H
      obtain ⟨⟨t384, t385⟩, A960, H⟩ := H
      replace H : ((spec_WeekOf.f kj37 t363).bind fun bt386 => (if t384 = bt386.1 then (laws_FnDays.j2 kj37 l0 t362 t363 (t385 != bt386.2) t364 t365 t366) else (laws_FnDays.j2 kj37 l0 t362 t363 true t364 t365 t366))) = some r := H
      have A96 := Aside0.mk A960
      clear A960
      replace H := Option.bind_eq_some_iff.mp H
      obtain ⟨⟨t386, t387⟩, A970, H⟩ := H
      replace H : (if t384 = t386 then (laws_FnDays.j2 kj37 l0 t362 t363 (t385 != t387) t364 t365 t366) else (laws_FnDays.j2 kj37 l0 t362 t363 true t364 t365 t366)) = some r := H
      have A97 := Aside0.mk A970
      clear A970
      have HC98 := Aside0.mk H
      clear H
      go_upto_region 19 with (first | ((with_reducible refine z9q (f := 23) rfl ?_); refine z17q (some 103) rfl rfl Tryd.func23 (by kernel_rfl) rfl #[.int .i64 t363] rfl (by (try simp only [map_toArray, map_cons, map_nil]); first | done | rfl | (simp only [length_drop, length_take]; rfl)) ?_; (with_reducible refine (impl_WeekOf.calls kj37 t363 t384 t385 _ (hT.below (by repeat (first | exact HB.out | exact Below.refl _ _ | apply z2q | apply z0q | apply z1q | refine z3q ?_ GE367.out | refine z3q ?_ GE378.out | refine z3q ?_ GE396.out | refine z3q ?_ GE400.out | refine z3q ?_ GE407.out))) A96.out).mono ?_); rintro e w99 ⟨rfl, hb⟩; refine ⟨_, rfl, ?_⟩; have n0_ := Aside0.mk (z13q (g := gb367) (o := .cells #[.int .i64 t364, .int .i64 t365, .int .i64 t366] 36 (0, 0)) (by (with_reducible repeat (first | refine z4q ?_ _ | refine z6q ?_ | refine z5q ?_ _)); exact BK367.out) hb); have n1_ := Aside0.mk (z11q (by repeat (first | (with_reducible first | exact HB.out | apply z2q | apply z0q | apply z1q | refine z3q ?_ GE367.out) | exact HB.out)) hb); clear BK367; clear HB; have BK367 := n0_; have HB := n1_; clear n0_ n1_; (try clear hb); (try clear hb2); (try clear hk); (try clear hi)) | ((with_reducible refine z9q (f := 24) rfl ?_); refine z17q (some 108) rfl rfl Tryd.func24 (by kernel_rfl) rfl #[.int .i64 t363] rfl (by (try simp only [map_toArray, map_cons, map_nil]); first | done | rfl | (simp only [length_drop, length_take]; rfl)) ?_; (with_reducible refine (spec_WeekOf.calls kj37 t363 t386 t387 _ A97.out).mono ?_); rintro e w100 ⟨rfl, hb⟩; refine ⟨_, rfl, ?_⟩; have n0_ := Aside0.mk (z13q (g := gb367) (o := .cells #[.int .i64 t364, .int .i64 t365, .int .i64 t366] 36 (0, 0)) (by (with_reducible repeat (first | refine z4q ?_ _ | refine z6q ?_ | refine z5q ?_ _)); exact BK367.out) hb); have n1_ := Aside0.mk (z11q (by repeat (first | (with_reducible first | exact HB.out | apply z2q | apply z0q | apply z1q | refine z3q ?_ GE367.out) | exact HB.out)) hb); clear BK367; clear HB; have BK367 := n0_; have HB := n1_; clear n0_ n1_; (try clear hb); (try clear hb2); (try clear hk); (try clear hi)))
      (try simp only [Act.put, setIfInBounds_toArray, set_cons_zero, set_cons_succ])
      go_cut [118] (fun v118 wc => ∃ (kq : Nat) (x118_97 : Bool), v118 = .bool x118_97 ∧ Aside0 (laws_FnDays.j2 kq l0 t362 t363 x118_97 t364 t365 t366 = some r) ∧ Aside0 (kq ≤ kj37) ∧ Aside0 (wc.heap[gb367]? = some (.cells #[.int .i64 t364, .int .i64 t365, .int .i64 t366] 36 (0, 0))) ∧ Aside0 (Below w.heap.size w wc))
      case first =>
       have H := HC98.out
       clear HC98
       by_cases c101 : t384 = t386
       ·rw [if_pos c101] at H
        have c101b0 : (t384 == t386) = true := beq_iff_eq.mpr c101
        have c101b1 : (t384 != t386) = false := bne_eq_false_iff_eq.mpr c101
        clear c101
        (first | rw [c101b0] | (simp only [i64_w, i32_w]; rw [c101b0]) | skip)
        have H' := Aside0.mk H
        clear H
        go_wp2
        go_meet
        case rel => exact ⟨_, ((t385 != t387)), (by first | rfl | (simp; done) | (simp [*]; done) | (simp; unfold wrap64; omega)), H', ⟨by have := HJ25.out; have := HJ37.out; first | omega | exact Nat.le_refl _⟩, ⟨by (with_reducible repeat (first | refine z4q ?_ _ | refine z6q ?_ | refine z5q ?_ _)); exact BK367.out⟩, ⟨by repeat (first | (with_reducible first | exact HB.out | apply z2q | apply z0q | apply z1q | refine z3q ?_ GE367.out) | exact HB.out)⟩⟩
       ·rw [if_neg c101] at H
        have c101b0 : (t384 == t386) = false := beq_eq_false_iff_ne.mpr c101
        have c101b1 : (t384 != t386) = true := bne_iff_ne.mpr c101
        (first | rw [c101b0] | (simp only [i64_w, i32_w]; rw [c101b0]) | skip)
        have H' := Aside0.mk H
        clear H
        go_wp2
        go_meet
        case rel => exact ⟨_, (true), (by first | rfl | (simp; done) | (simp [*]; done) | (simp; unfold wrap64; omega)), H', ⟨by have := HJ25.out; have := HJ37.out; first | omega | exact Nat.le_refl _⟩, ⟨by (with_reducible repeat (first | refine z4q ?_ _ | refine z6q ?_ | refine z5q ?_ _)); exact BK367.out⟩, ⟨by repeat (first | (with_reducible first | exact HB.out | apply z2q | apply z0q | apply z1q | refine z3q ?_ GE367.out) | exact HB.out)⟩⟩
      case rest =>
       clear HC98
       try clear c1
       try clear c2
       try clear p2
       try clear c3
       try clear c5
       try clear c6
       try clear p6
       try clear c7
       try clear c8
       try clear c9
       try clear c10
       try clear c17
       try clear c22
       try clear c23
       try clear c24
       try clear c39
       try clear c39b0
       try clear c50
       try clear c50b0
       try clear c50b1
       try clear c53
       try clear c53b0
       try clear c53b1
       try clear c63
       try clear p64
       try clear c68
       try clear c68b0
       try clear c68b1
       try clear c71
       try clear c71b0
       try clear c71b1
       try clear c74
       try clear c82
       try clear c90
       try clear c101
       try clear c101b0
       try clear c101b1
       try clear hcz60_0
       try clear hcz60_1
       try clear hcz60_2
       try clear hcz64_0
       try clear hcz64_1
       try clear hcz64_2
       try clear hcz67_0
       try clear hcz67_1
       try clear hcz67_2
       try clear hcz75_0
       try clear hcz75_1
       try clear hcz75_2
       try clear hcz78_0
       try clear hcz78_1
       try clear hcz78_2
       try clear hcz79_0
       try clear hcz79_1
       try clear hcz79_2
       try clear hcz83_0
       try clear hcz83_1
       try clear hcz83_2
       try clear hcz86_0
       try clear hcz86_1
       try clear hcz86_2
       try clear hcz87_0
       try clear hcz87_1
       try clear hcz87_2
       try clear hcz91_0
       try clear hcz91_1
       try clear hcz91_2
       try clear hcz94_0
       try clear hcz94_1
       try clear hcz94_2
       try clear hcz95_0
       try clear hcz95_1
       try clear hcz95_2
       try clear hfz60_0
       try clear hfz60_1
       try clear hfz60_2
       try clear hfz64_0
       try clear hfz64_1
       try clear hfz64_2
       try clear hfz67_0
       try clear hfz67_1
       try clear hfz67_2
       try clear hfz75_0
       try clear hfz75_1
       try clear hfz75_2
       try clear hfz78_0
       try clear hfz78_1
       try clear hfz78_2
       try clear hfz79_0
       try clear hfz79_1
       try clear hfz79_2
       try clear hfz83_0
       try clear hfz83_1
       try clear hfz83_2
       try clear hfz86_0
       try clear hfz86_1
       try clear hfz86_2
       try clear hfz87_0
       try clear hfz87_1
       try clear hfz87_2
       try clear hfz91_0
       try clear hfz91_1
       try clear hfz91_2
       try clear hfz94_0
       try clear hfz94_1
       try clear hfz94_2
       try clear hfz95_0
       try clear hfz95_1
       try clear hfz95_2
       try clear p2
       try clear p6
       try clear p64
       obtain ⟨kq, x118_97, rfl, HA, HJ97, BK367, HB⟩ := hcut
       cases kq with
       | zero => exact absurd HA.out (by simp [laws_FnDays.j2])
       | succ kj97 =>
        have H := HA.out
        clear HA
        simp only [laws_FnDays.j2] at H
        by_cases c102 : x118_97 = true
        ·subst c102
         have H1 : (some false) = some r := by rw [if_pos rfl] at H; exact H
         clear H
         have H := H1
         clear H1
         obtain rfl := Option.some.inj H
         go_wp2
         go_ret
         exact ⟨by first | rfl | (simp [errW_none, errW_some] <;> rfl) | (simp [*, errW_none, errW_some] <;> rfl), by repeat (first | (with_reducible first | exact HB.out | apply z2q | apply z0q | apply z1q | refine z3q ?_ GE367.out) | exact HB.out)⟩
        ·replace c102 := Bool.eq_false_iff.mpr c102
         subst c102
         have H1 : ((impl_DateText.f kj97 t364 t365 t366).bind fun t388 => ((impl_ReadDate.f kj97 t362 t388).bind fun bt389 => (if bt389.2 = true then (laws_FnDays.j3 kj97 l0 (bt389.1 != t363)) else (laws_FnDays.j3 kj97 l0 true)))) = some r := by rw [if_neg (show ¬ (false = true) by decide)] at H; exact H
         clear H
         have H := H1
         clear H1
         replace H := Option.bind_eq_some_iff.mp H
         obtain ⟨t388, A1030, H⟩ := H
         replace H : ((impl_ReadDate.f kj97 t362 t388).bind fun bt389 => (if bt389.2 = true then (laws_FnDays.j3 kj97 l0 (bt389.1 != t363)) else (laws_FnDays.j3 kj97 l0 true))) = some r := H
         have A103 := Aside0.mk A1030
         clear A1030
         replace H := Option.bind_eq_some_iff.mp H
         obtain ⟨⟨t389, t390⟩, A1040, H⟩ := H
         replace H : (if t390 = true then (laws_FnDays.j3 kj97 l0 (t389 != t363)) else (laws_FnDays.j3 kj97 l0 true)) = some r := H
         have A104 := Aside0.mk A1040
         clear A1040
         have HC105 := Aside0.mk H
         clear H
         have hcz106_0 : wc.cell? ⟨gb367, 0, none⟩ = some (.int .i64 t364) := (z7q BK367.out 0).trans rfl
         have hcz106_1 : wc.cell? ⟨gb367, 1, none⟩ = some (.int .i64 t365) := (z7q BK367.out 1).trans rfl
         have hcz106_2 : wc.cell? ⟨gb367, 2, none⟩ = some (.int .i64 t366) := (z7q BK367.out 2).trans rfl
         have hfz106_0 := z8q BK367.out 0
         have hfz106_1 := z8q BK367.out 1
         have hfz106_2 := z8q BK367.out 2
         go_upto_region 23 with (first | ((with_reducible refine z9q (f := 25) rfl ?_); refine z17q (some 120) rfl rfl Tryd.func25 (by kernel_rfl) rfl #[.agg #[.int .i64 t364, .int .i64 t365, .int .i64 t366]] rfl (by (try simp only [map_toArray, map_cons, map_nil]); first | done | rfl | (simp only [length_drop, length_take]; rfl)) ?_; (with_reducible refine (impl_DateText.calls kj97 t364 t365 t366 t388 _ (hT.below (by repeat (first | exact HB.out | exact Below.refl _ _ | apply z2q | apply z0q | apply z1q | refine z3q ?_ GE367.out | refine z3q ?_ GE378.out | refine z3q ?_ GE396.out | refine z3q ?_ GE400.out | refine z3q ?_ GE407.out))) A103.out).mono ?_); rintro e w107 ⟨rfl, hb⟩; refine ⟨_, rfl, ?_⟩; have n0_ := Aside0.mk (z13q (g := gb367) (o := .cells #[.int .i64 t364, .int .i64 t365, .int .i64 t366] 36 (0, 0)) (by (with_reducible repeat (first | refine z4q ?_ _ | refine z6q ?_ | refine z5q ?_ _)); exact BK367.out) hb); have n1_ := Aside0.mk (z11q (by repeat (first | (with_reducible first | exact HB.out | apply z2q | apply z0q | apply z1q | refine z3q ?_ GE367.out) | exact HB.out)) hb); clear BK367; clear HB; have BK367 := n0_; have HB := n1_; clear n0_ n1_; (try clear hb); (try clear hb2); (try clear hk); (try clear hi)) | ((with_reducible refine z9q (f := 26) rfl ?_); refine z17q (some 124) rfl rfl Tryd.func26 (by kernel_rfl) rfl #[.int .i64 t362, .string t388] rfl (by (try simp only [map_toArray, map_cons, map_nil]); first | done | rfl | (simp only [length_drop, length_take]; rfl)) ?_; (with_reducible refine (impl_ReadDate.calls kj97 t362 t388 t389 t390 _ (hT.below (by repeat (first | exact HB.out | exact Below.refl _ _ | apply z2q | apply z0q | apply z1q | refine z3q ?_ GE367.out | refine z3q ?_ GE378.out | refine z3q ?_ GE396.out | refine z3q ?_ GE400.out | refine z3q ?_ GE407.out))) A104.out).mono ?_); rintro e w108 ⟨rfl, hb⟩; refine ⟨_, rfl, ?_⟩; have n0_ := Aside0.mk (z13q (g := gb367) (o := .cells #[.int .i64 t364, .int .i64 t365, .int .i64 t366] 36 (0, 0)) (by (with_reducible repeat (first | refine z4q ?_ _ | refine z6q ?_ | refine z5q ?_ _)); exact BK367.out) hb); have n1_ := Aside0.mk (z11q (by repeat (first | (with_reducible first | exact HB.out | apply z2q | apply z0q | apply z1q | refine z3q ?_ GE367.out) | exact HB.out)) hb); clear BK367; clear HB; have BK367 := n0_; have HB := n1_; clear n0_ n1_; (try clear hb); (try clear hb2); (try clear hk); (try clear hi)))
         (try simp only [Act.put, setIfInBounds_toArray, set_cons_zero, set_cons_succ])
         go_cut [133] (fun v133 wc => ∃ (kq : Nat) (x133_104 : Bool), v133 = .bool x133_104 ∧ Aside0 (laws_FnDays.j3 kq l0 x133_104 = some r) ∧ Aside0 (kq ≤ kj97) ∧ Aside0 (wc.heap[gb367]? = some (.cells #[.int .i64 t364, .int .i64 t365, .int .i64 t366] 36 (0, 0))) ∧ Aside0 (Below w.heap.size w wc))
         case first =>
          have H := HC105.out
          clear HC105
          by_cases c109 : t390 = true
          ·subst c109
           have H1 : (laws_FnDays.j3 kj97 l0 (t389 != t363)) = some r := by rw [if_pos rfl] at H; exact H
           clear H
           have H := H1
           clear H1
           have H' := Aside0.mk H
           clear H
           go_wp2
           go_meet
           case rel => exact ⟨_, ((t389 != t363)), (by first | rfl | (simp; done) | (simp [*]; done) | (simp; unfold wrap64; omega)), H', ⟨by have := HJ25.out; have := HJ37.out; have := HJ97.out; first | omega | exact Nat.le_refl _⟩, ⟨by (with_reducible repeat (first | refine z4q ?_ _ | refine z6q ?_ | refine z5q ?_ _)); exact BK367.out⟩, ⟨by repeat (first | (with_reducible first | exact HB.out | apply z2q | apply z0q | apply z1q | refine z3q ?_ GE367.out) | exact HB.out)⟩⟩
          ·replace c109 := Bool.eq_false_iff.mpr c109
           subst c109
           have H1 : (laws_FnDays.j3 kj97 l0 true) = some r := by rw [if_neg (show ¬ (false = true) by decide)] at H; exact H
           clear H
           have H := H1
           clear H1
           have H' := Aside0.mk H
           clear H
           go_wp2
           go_meet
           case rel => exact ⟨_, (true), (by first | rfl | (simp; done) | (simp [*]; done) | (simp; unfold wrap64; omega)), H', ⟨by have := HJ25.out; have := HJ37.out; have := HJ97.out; first | omega | exact Nat.le_refl _⟩, ⟨by (with_reducible repeat (first | refine z4q ?_ _ | refine z6q ?_ | refine z5q ?_ _)); exact BK367.out⟩, ⟨by repeat (first | (with_reducible first | exact HB.out | apply z2q | apply z0q | apply z1q | refine z3q ?_ GE367.out) | exact HB.out)⟩⟩
         case rest =>
          clear HC105
          try clear c1
          try clear c2
          try clear p2
          try clear c3
          try clear c5
          try clear c6
          try clear p6
          try clear c7
          try clear c8
          try clear c9
          try clear c10
          try clear c17
          try clear c22
          try clear c23
          try clear c24
          try clear c25
          try clear c26
          try clear c39
          try clear c39b0
          try clear c50
          try clear c50b0
          try clear c50b1
          try clear c53
          try clear c53b0
          try clear c53b1
          try clear c63
          try clear p64
          try clear c68
          try clear c68b0
          try clear c68b1
          try clear c71
          try clear c71b0
          try clear c71b1
          try clear c74
          try clear c82
          try clear c90
          try clear c101
          try clear c101b0
          try clear c101b1
          try clear c102
          try clear c109
          try clear hcz106_0
          try clear hcz106_1
          try clear hcz106_2
          try clear hcz60_0
          try clear hcz60_1
          try clear hcz60_2
          try clear hcz64_0
          try clear hcz64_1
          try clear hcz64_2
          try clear hcz67_0
          try clear hcz67_1
          try clear hcz67_2
          try clear hcz75_0
          try clear hcz75_1
          try clear hcz75_2
          try clear hcz78_0
          try clear hcz78_1
          try clear hcz78_2
          try clear hcz79_0
          try clear hcz79_1
          try clear hcz79_2
          try clear hcz83_0
          try clear hcz83_1
          try clear hcz83_2
          try clear hcz86_0
          try clear hcz86_1
          try clear hcz86_2
          try clear hcz87_0
          try clear hcz87_1
          try clear hcz87_2
          try clear hcz91_0
          try clear hcz91_1
          try clear hcz91_2
          try clear hcz94_0
          try clear hcz94_1
          try clear hcz94_2
          try clear hcz95_0
          try clear hcz95_1
          try clear hcz95_2
          try clear hfz106_0
          try clear hfz106_1
          try clear hfz106_2
          try clear hfz60_0
          try clear hfz60_1
          try clear hfz60_2
          try clear hfz64_0
          try clear hfz64_1
          try clear hfz64_2
          try clear hfz67_0
          try clear hfz67_1
          try clear hfz67_2
          try clear hfz75_0
          try clear hfz75_1
          try clear hfz75_2
          try clear hfz78_0
          try clear hfz78_1
          try clear hfz78_2
          try clear hfz79_0
          try clear hfz79_1
          try clear hfz79_2
          try clear hfz83_0
          try clear hfz83_1
          try clear hfz83_2
          try clear hfz86_0
          try clear hfz86_1
          try clear hfz86_2
          try clear hfz87_0
          try clear hfz87_1
          try clear hfz87_2
          try clear hfz91_0
          try clear hfz91_1
          try clear hfz91_2
          try clear hfz94_0
          try clear hfz94_1
          try clear hfz94_2
          try clear hfz95_0
          try clear hfz95_1
          try clear hfz95_2
          try clear p2
          try clear p6
          try clear p64
          obtain ⟨kq, x133_104, rfl, HA, HJ104, BK367, HB⟩ := hcut
          cases kq with
          | zero => exact absurd HA.out (by simp [laws_FnDays.j3])
          | succ kj104 =>
           have H := HA.out
           clear HA
           simp only [laws_FnDays.j3] at H
           by_cases c110 : x133_104 = true
           ·subst c110
            have H1 : (some false) = some r := by rw [if_pos rfl] at H; exact H
            clear H
            have H := H1
            clear H1
            obtain rfl := Option.some.inj H
            go_wp2
            go_ret
            exact ⟨by first | rfl | (simp [errW_none, errW_some] <;> rfl) | (simp [*, errW_none, errW_some] <;> rfl), by repeat (first | (with_reducible first | exact HB.out | apply z2q | apply z0q | apply z1q | refine z3q ?_ GE367.out) | exact HB.out)⟩
           ·replace c110 := Bool.eq_false_iff.mpr c110
            subst c110
            have H1 : ((spec_DrawAddMonths.f l0).bind fun bt391 => ((impl_AddMonths.f kj104 bt391.1 bt391.2.1 bt391.2.2.1 bt391.2.2.2.1 bt391.2.2.2.2).bind fun bt397 => ((spec_AddMonths.f kj104 bt391.1 bt391.2.1 bt391.2.2.1 bt391.2.2.2.1 bt391.2.2.2.2).bind fun bt401 => (if (!(bt397.1 == bt401.1) || (!(bt397.2.1 == bt401.2.1) || (!(bt397.2.2 == bt401.2.2)))) = true then (some false) else (if (bt397.1 == 0 && (bt397.2.1 == 0 && (bt397.2.2 == 0))) = true then (some true) else ((impl_AddMonths.f kj104 bt391.1 bt397.1 bt397.2.1 bt397.2.2 (wrap64 (-bt391.2.2.2.2))).bind fun bt404 => (if bt404.1 = bt391.2.1 then (if bt404.2.1 = bt391.2.2.1 then (some (decide (bt404.2.2 ≤ bt391.2.2.2.1))) else (some false)) else (some false)))))))) = some r := by rw [if_neg (show ¬ (false = true) by decide)] at H; exact H
            clear H
            have H := H1
            clear H1
            replace H := Option.bind_eq_some_iff.mp H
            obtain ⟨⟨t391, t392, t393, t394, t395⟩, A1110, H⟩ := H
            replace H : ((impl_AddMonths.f kj104 t391 t392 t393 t394 t395).bind fun bt397 => ((spec_AddMonths.f kj104 t391 t392 t393 t394 t395).bind fun bt401 => (if (!(bt397.1 == bt401.1) || (!(bt397.2.1 == bt401.2.1) || (!(bt397.2.2 == bt401.2.2)))) = true then (some false) else (if (bt397.1 == 0 && (bt397.2.1 == 0 && (bt397.2.2 == 0))) = true then (some true) else ((impl_AddMonths.f kj104 t391 bt397.1 bt397.2.1 bt397.2.2 (wrap64 (-t395))).bind fun bt404 => (if bt404.1 = t392 then (if bt404.2.1 = t393 then (some (decide (bt404.2.2 ≤ t394))) else (some false)) else (some false))))))) = some r := H
            have A111 := Aside0.mk A1110
            clear A1110
            replace H := Option.bind_eq_some_iff.mp H
            obtain ⟨⟨t397, t398, t399⟩, A1120, H⟩ := H
            replace H : ((spec_AddMonths.f kj104 t391 t392 t393 t394 t395).bind fun bt401 => (if (!(t397 == bt401.1) || (!(t398 == bt401.2.1) || (!(t399 == bt401.2.2)))) = true then (some false) else (if (t397 == 0 && (t398 == 0 && (t399 == 0))) = true then (some true) else ((impl_AddMonths.f kj104 t391 t397 t398 t399 (wrap64 (-t395))).bind fun bt404 => (if bt404.1 = t392 then (if bt404.2.1 = t393 then (some (decide (bt404.2.2 ≤ t394))) else (some false)) else (some false)))))) = some r := H
            have A112 := Aside0.mk A1120
            clear A1120
            replace H := Option.bind_eq_some_iff.mp H
            obtain ⟨⟨t401, t402, t403⟩, A1130, H⟩ := H
            replace H : (if (!(t397 == t401) || (!(t398 == t402) || (!(t399 == t403)))) = true then (some false) else (if (t397 == 0 && (t398 == 0 && (t399 == 0))) = true then (some true) else ((impl_AddMonths.f kj104 t391 t397 t398 t399 (wrap64 (-t395))).bind fun bt404 => (if bt404.1 = t392 then (if bt404.2.1 = t393 then (some (decide (bt404.2.2 ≤ t394))) else (some false)) else (some false))))) = some r := H
            have A113 := Aside0.mk A1130
            clear A1130
            by_cases c114 : (!(t397 == t401) || (!(t398 == t402) || (!(t399 == t403)))) = true
            ·rw [if_pos c114] at H
             have c114b0 : (!(t397 == t401) || (!(t398 == t402) || (!(t399 == t403)))) = true := c114
             clear c114
             obtain rfl := Option.some.inj H
             try go_wp2_with (first | ((with_reducible refine z9q (f := 27) rfl ?_); refine z17q (some 136) rfl rfl Tryd.func27 (by kernel_rfl) rfl #[.slice A0 l0.length c0] rfl (by (try simp only [map_toArray, map_cons, map_nil]); first | done | rfl | (simp only [length_drop, length_take]; rfl)) ?_; (with_reducible refine (spec_DrawAddMonths.calls _ _ l0 t391 t392 t393 t394 t395 _ ?side1 ?side2 A111.out).mono ?_); (case side1 => repeat (first | exact (Kd.C_below HR0.out HB.out) | (with_reducible refine Kd.C_alloc ?_ _) | (with_reducible refine Kd.C_drewN ?_ _) | (with_reducible refine Kd.C_drew ?_))); (case side2 => exact HC0.out); rintro e w115 ⟨rfl, hb⟩; refine ⟨_, rfl, ?_⟩; have n0_ := Aside0.mk (z13q (g := gb367) (o := .cells #[.int .i64 t364, .int .i64 t365, .int .i64 t366] 36 (0, 0)) (by (with_reducible repeat (first | refine z4q ?_ _ | refine z6q ?_ | refine z5q ?_ _)); exact BK367.out) hb); have n1_ := Aside0.mk (z11q (by repeat (first | (with_reducible first | exact HB.out | apply z2q | apply z0q | apply z1q | refine z3q ?_ GE367.out) | exact HB.out)) hb); clear BK367; clear HB; have BK367 := n0_; have HB := n1_; clear n0_ n1_; (try clear hb); (try clear hb2); (try clear hk); (try clear hi)) | ((with_reducible refine z22q (N := 18) rfl ?_); refine z20q ?hg (N := 18) ?hd (cs := #[.int .i64 0, .int .i64 0, .int .i64 0]) (t := 36) ?hr ?_; (case hd => rfl); (case hg => rfl); (case hr => first | (go_simp; done) | (go_simp; rfl)); intro gb396 hg w116 hbox hb; have n0_ := Aside0.mk (z13q (g := gb367) (o := .cells #[.int .i64 t364, .int .i64 t365, .int .i64 t366] 36 (0, 0)) (by (with_reducible repeat (first | refine z4q ?_ _ | refine z6q ?_ | refine z5q ?_ _)); exact BK367.out) hb); have n1_ := Aside0.mk (z11q (by repeat (first | (with_reducible first | exact HB.out | apply z2q | apply z0q | apply z1q | refine z3q ?_ GE367.out) | exact HB.out)) hb); have n2_ := Aside0.mk (hbox); have n3_ := Aside0.mk ((by rw [hg]; exact (z12q (by repeat (first | (with_reducible first | exact HB.out | apply z2q | apply z0q | apply z1q | refine z3q ?_ GE367.out) | exact HB.out))) : w.heap.size ≤ gb396)); have n4_ := Aside0.mk ((by rw [hg]; exact (z12q (by repeat (first | (with_reducible first | exact HB.out | apply z2q | apply z0q | apply z1q | refine z3q ?_ GE367.out) | exact HB.out))) : w.heap.size ≤ gb396)); have n5_ := Aside0.mk ((by rw [hg]; exact Nat.ne_of_lt (z21q (g := gb367) (o := .cells #[.int .i64 t364, .int .i64 t365, .int .i64 t366] 36 (0, 0)) (by (with_reducible repeat (first | refine z4q ?_ _ | refine z6q ?_ | refine z5q ?_ _)); exact BK367.out)) : gb367 ≠ gb396)); have n6_ := Aside0.mk ((by rw [hg]; exact Nat.ne_of_gt (z21q (g := gb367) (o := .cells #[.int .i64 t364, .int .i64 t365, .int .i64 t366] 36 (0, 0)) (by (with_reducible repeat (first | refine z4q ?_ _ | refine z6q ?_ | refine z5q ?_ _)); exact BK367.out)) : gb396 ≠ gb367)); clear BK367; clear HB; have BK367 := n0_; have HB := n1_; have BK396 := n2_; have GW396 := n3_; have GE396 := n4_; have NB367_396 := n5_; have NB396_367 := n6_; clear n0_ n1_ n2_ n3_ n4_ n5_ n6_; clear hb hbox hg; have hnb117 := NB396_367.out; have hnc117 := NB367_396.out; have hcz118_0 : w116.cell? ⟨gb396, 0, none⟩ = some (.int .i64 0) := (z7q BK396.out 0).trans rfl; have hcz118_1 : w116.cell? ⟨gb396, 1, none⟩ = some (.int .i64 0) := (z7q BK396.out 1).trans rfl; have hcz118_2 : w116.cell? ⟨gb396, 2, none⟩ = some (.int .i64 0) := (z7q BK396.out 2).trans rfl; have hfz118_0 := z8q BK396.out 0; have hfz118_1 := z8q BK396.out 1; have hfz118_2 := z8q BK396.out 2) | ((with_reducible refine z9q (f := 28) rfl ?_); refine z17q (some 143) rfl rfl Tryd.func28 (by kernel_rfl) rfl #[.int .i64 t391, .agg #[.int .i64 t392, .int .i64 t393, .int .i64 t394], .int .i64 t395] rfl (by (try simp only [map_toArray, map_cons, map_nil]); first | done | rfl | (simp only [length_drop, length_take]; rfl)) ?_; (with_reducible refine (impl_AddMonths.calls kj104 t391 t392 t393 t394 t395 t397 t398 t399 _ (hT.below (by repeat (first | exact HB.out | exact Below.refl _ _ | apply z2q | apply z0q | apply z1q | refine z3q ?_ GE367.out | refine z3q ?_ GE378.out | refine z3q ?_ GE396.out | refine z3q ?_ GE400.out | refine z3q ?_ GE407.out))) A112.out).mono ?_); rintro e w119 ⟨rfl, hb⟩; refine ⟨_, rfl, ?_⟩; have n0_ := Aside0.mk (z13q (g := gb367) (o := .cells #[.int .i64 t364, .int .i64 t365, .int .i64 t366] 36 (0, 0)) (by (with_reducible repeat (first | refine z4q ?_ _ | refine z6q ?_ | refine z5q ?_ _)); refine z18q ?_ NB367_396.out _; (with_reducible repeat (first | refine z4q ?_ _ | refine z6q ?_ | refine z5q ?_ _)); refine z18q ?_ NB367_396.out _; (with_reducible repeat (first | refine z4q ?_ _ | refine z6q ?_ | refine z5q ?_ _)); refine z18q ?_ NB367_396.out _; (with_reducible repeat (first | refine z4q ?_ _ | refine z6q ?_ | refine z5q ?_ _)); exact BK367.out) hb); have n1_ := Aside0.mk (z13q (g := gb396) (o := .cells #[.int .i64 t392, .int .i64 t393, .int .i64 t394] 36 (0, 0)) (by (with_reducible repeat (first | refine z4q ?_ _ | refine z6q ?_ | refine z5q ?_ _)); refine z14q (cs := #[.int .i64 t392, .int .i64 t393, .int .i64 0]) ?_ 2 _ rfl; (with_reducible repeat (first | refine z4q ?_ _ | refine z6q ?_ | refine z5q ?_ _)); refine z14q (cs := #[.int .i64 t392, .int .i64 0, .int .i64 0]) ?_ 1 _ rfl; (with_reducible repeat (first | refine z4q ?_ _ | refine z6q ?_ | refine z5q ?_ _)); refine z14q (cs := #[.int .i64 0, .int .i64 0, .int .i64 0]) ?_ 0 _ rfl; (with_reducible repeat (first | refine z4q ?_ _ | refine z6q ?_ | refine z5q ?_ _)); exact BK396.out) hb); have n2_ := Aside0.mk (z11q (by repeat (first | (with_reducible first | exact HB.out | apply z2q | apply z0q | apply z1q | refine z3q ?_ GE367.out | refine z3q ?_ GE396.out) | exact HB.out)) hb); clear BK367; clear BK396; clear HB; have BK367 := n0_; have BK396 := n1_; have HB := n2_; clear n0_ n1_ n2_; (try clear hb); (try clear hb2); (try clear hk); (try clear hi)) | ((with_reducible refine z22q (N := 20) rfl ?_); refine z20q ?hg (N := 20) ?hd (cs := #[.int .i64 0, .int .i64 0, .int .i64 0]) (t := 36) ?hr ?_; (case hd => rfl); (case hg => rfl); (case hr => first | (go_simp; done) | (go_simp; rfl)); intro gb400 hg w120 hbox hb; have n0_ := Aside0.mk (z13q (g := gb367) (o := .cells #[.int .i64 t364, .int .i64 t365, .int .i64 t366] 36 (0, 0)) (by (with_reducible repeat (first | refine z4q ?_ _ | refine z6q ?_ | refine z5q ?_ _)); exact BK367.out) hb); have n1_ := Aside0.mk (z13q (g := gb396) (o := .cells #[.int .i64 t392, .int .i64 t393, .int .i64 t394] 36 (0, 0)) (by (with_reducible repeat (first | refine z4q ?_ _ | refine z6q ?_ | refine z5q ?_ _)); exact BK396.out) hb); have n2_ := Aside0.mk (z11q (by repeat (first | (with_reducible first | exact HB.out | apply z2q | apply z0q | apply z1q | refine z3q ?_ GE367.out | refine z3q ?_ GE396.out) | exact HB.out)) hb); have n3_ := Aside0.mk (hbox); have n4_ := Aside0.mk ((by rw [hg]; exact (z12q (by repeat (first | (with_reducible first | exact HB.out | apply z2q | apply z0q | apply z1q | refine z3q ?_ GE367.out | refine z3q ?_ GE396.out) | exact HB.out))) : w.heap.size ≤ gb400)); have n5_ := Aside0.mk ((by rw [hg]; exact (z12q (by repeat (first | (with_reducible first | exact HB.out | apply z2q | apply z0q | apply z1q | refine z3q ?_ GE367.out | refine z3q ?_ GE396.out) | exact HB.out))) : w.heap.size ≤ gb400)); have n6_ := Aside0.mk ((by rw [hg]; exact Nat.ne_of_lt (z21q (g := gb367) (o := .cells #[.int .i64 t364, .int .i64 t365, .int .i64 t366] 36 (0, 0)) (by (with_reducible repeat (first | refine z4q ?_ _ | refine z6q ?_ | refine z5q ?_ _)); exact BK367.out)) : gb367 ≠ gb400)); have n7_ := Aside0.mk ((by rw [hg]; exact Nat.ne_of_gt (z21q (g := gb367) (o := .cells #[.int .i64 t364, .int .i64 t365, .int .i64 t366] 36 (0, 0)) (by (with_reducible repeat (first | refine z4q ?_ _ | refine z6q ?_ | refine z5q ?_ _)); exact BK367.out)) : gb400 ≠ gb367)); have n8_ := Aside0.mk ((by rw [hg]; exact Nat.ne_of_lt (z21q (g := gb396) (o := .cells #[.int .i64 t392, .int .i64 t393, .int .i64 t394] 36 (0, 0)) (by (with_reducible repeat (first | refine z4q ?_ _ | refine z6q ?_ | refine z5q ?_ _)); exact BK396.out)) : gb396 ≠ gb400)); have n9_ := Aside0.mk ((by rw [hg]; exact Nat.ne_of_gt (z21q (g := gb396) (o := .cells #[.int .i64 t392, .int .i64 t393, .int .i64 t394] 36 (0, 0)) (by (with_reducible repeat (first | refine z4q ?_ _ | refine z6q ?_ | refine z5q ?_ _)); exact BK396.out)) : gb400 ≠ gb396)); clear BK367; clear BK396; clear HB; have BK367 := n0_; have BK396 := n1_; have HB := n2_; have BK400 := n3_; have GW400 := n4_; have GE400 := n5_; have NB367_400 := n6_; have NB400_367 := n7_; have NB396_400 := n8_; have NB400_396 := n9_; clear n0_ n1_ n2_ n3_ n4_ n5_ n6_ n7_ n8_ n9_; clear hb hbox hg; have hnb121 := NB400_367.out; have hnc121 := NB367_400.out; have hnb122 := NB400_396.out; have hnc122 := NB396_400.out; have hcz123_0 : w120.cell? ⟨gb400, 0, none⟩ = some (.int .i64 0) := (z7q BK400.out 0).trans rfl; have hcz123_1 : w120.cell? ⟨gb400, 1, none⟩ = some (.int .i64 0) := (z7q BK400.out 1).trans rfl; have hcz123_2 : w120.cell? ⟨gb400, 2, none⟩ = some (.int .i64 0) := (z7q BK400.out 2).trans rfl; have hfz123_0 := z8q BK400.out 0; have hfz123_1 := z8q BK400.out 1; have hfz123_2 := z8q BK400.out 2))
             have n0_ : Aside0 ((((w120.setCell ⟨gb400, 0, none⟩ (.int .i64 t397)).setCell ⟨gb400, 1, none⟩ (.int .i64 t398)).setCell ⟨gb400, 2, none⟩ (.int .i64 t399)).heap[gb367]? = some (.cells #[.int .i64 t364, .int .i64 t365, .int .i64 t366] 36 (0, 0))) := ⟨by (with_reducible repeat (first | refine z4q ?_ _ | refine z6q ?_ | refine z5q ?_ _)); refine z18q ?_ NB367_400.out _; (with_reducible repeat (first | refine z4q ?_ _ | refine z6q ?_ | refine z5q ?_ _)); refine z18q ?_ NB367_400.out _; (with_reducible repeat (first | refine z4q ?_ _ | refine z6q ?_ | refine z5q ?_ _)); refine z18q ?_ NB367_400.out _; (with_reducible repeat (first | refine z4q ?_ _ | refine z6q ?_ | refine z5q ?_ _)); exact BK367.out⟩
             have n1_ : Aside0 ((((w120.setCell ⟨gb400, 0, none⟩ (.int .i64 t397)).setCell ⟨gb400, 1, none⟩ (.int .i64 t398)).setCell ⟨gb400, 2, none⟩ (.int .i64 t399)).heap[gb396]? = some (.cells #[.int .i64 t392, .int .i64 t393, .int .i64 t394] 36 (0, 0))) := ⟨by (with_reducible repeat (first | refine z4q ?_ _ | refine z6q ?_ | refine z5q ?_ _)); refine z18q ?_ NB396_400.out _; (with_reducible repeat (first | refine z4q ?_ _ | refine z6q ?_ | refine z5q ?_ _)); refine z18q ?_ NB396_400.out _; (with_reducible repeat (first | refine z4q ?_ _ | refine z6q ?_ | refine z5q ?_ _)); refine z18q ?_ NB396_400.out _; (with_reducible repeat (first | refine z4q ?_ _ | refine z6q ?_ | refine z5q ?_ _)); exact BK396.out⟩
             have n2_ : Aside0 ((((w120.setCell ⟨gb400, 0, none⟩ (.int .i64 t397)).setCell ⟨gb400, 1, none⟩ (.int .i64 t398)).setCell ⟨gb400, 2, none⟩ (.int .i64 t399)).heap[gb400]? = some (.cells #[.int .i64 t397, .int .i64 t398, .int .i64 t399] 36 (0, 0))) := ⟨by (with_reducible repeat (first | refine z4q ?_ _ | refine z6q ?_ | refine z5q ?_ _)); refine z14q (cs := #[.int .i64 t397, .int .i64 t398, .int .i64 0]) ?_ 2 _ rfl; (with_reducible repeat (first | refine z4q ?_ _ | refine z6q ?_ | refine z5q ?_ _)); refine z14q (cs := #[.int .i64 t397, .int .i64 0, .int .i64 0]) ?_ 1 _ rfl; (with_reducible repeat (first | refine z4q ?_ _ | refine z6q ?_ | refine z5q ?_ _)); refine z14q (cs := #[.int .i64 0, .int .i64 0, .int .i64 0]) ?_ 0 _ rfl; (with_reducible repeat (first | refine z4q ?_ _ | refine z6q ?_ | refine z5q ?_ _)); exact BK400.out⟩
             have n3_ : Aside0 (Below w.heap.size w (((w120.setCell ⟨gb400, 0, none⟩ (.int .i64 t397)).setCell ⟨gb400, 1, none⟩ (.int .i64 t398)).setCell ⟨gb400, 2, none⟩ (.int .i64 t399))) := ⟨by repeat (first | (with_reducible first | exact HB.out | apply z2q | apply z0q | apply z1q | refine z3q ?_ GE367.out | refine z3q ?_ GE396.out | refine z3q ?_ GE400.out) | exact HB.out)⟩
             (try clear BK367)
             (try clear BK396)
             (try clear BK400)
             (try clear HB)
             generalize (((w120.setCell ⟨gb400, 0, none⟩ (.int .i64 t397)).setCell ⟨gb400, 1, none⟩ (.int .i64 t398)).setCell ⟨gb400, 2, none⟩ (.int .i64 t399)) = w124 at n0_ n1_ n2_ n3_ ⊢
             have BK367 := n0_
             have BK396 := n1_
             have BK400 := n2_
             have HB := n3_
             clear n0_ n1_ n2_ n3_
             have n0_ := Aside0.mk (z6q BK367.out)
             have n1_ := Aside0.mk (z6q BK396.out)
             have n2_ := Aside0.mk (z6q BK400.out)
             have n3_ := Aside0.mk (z1q HB.out)
             clear BK367
             clear BK396
             clear BK400
             clear HB
             have BK367 := n0_
             have BK396 := n1_
             have BK400 := n2_
             have HB := n3_
             clear n0_ n1_ n2_ n3_
             refine start_ (n := 6) (S := fun w' => w'.cell? ⟨gb400, 0, none⟩ = some (.int .i64 t397) ∧ w'.cell? ⟨gb400, 1, none⟩ = some (.int .i64 t398) ∧ w'.cell? ⟨gb400, 2, none⟩ = some (.int .i64 t399) ∧ w'.cell? ⟨gb396, 0, none⟩ = some (.int .i64 t392) ∧ w'.cell? ⟨gb396, 1, none⟩ = some (.int .i64 t393) ∧ w'.cell? ⟨gb396, 2, none⟩ = some (.int .i64 t394)) (ds := []) bt13_11 (by kernel_rfl) rfl rfl ⟨(z7q BK400.out 0).trans rfl, (z7q BK400.out 1).trans rfl, (z7q BK400.out 2).trans rfl, (z7q BK396.out 0).trans rfl, (z7q BK396.out 1).trans rfl, (z7q BK396.out 2).trans rfl⟩ (fun hHeld => ?_)
             generalize w124.drew = w125 at BK367 BK396 BK400 HB hHeld ⊢
             refine pure_ (i := 1) (N := some 145) (v := ?_) (a' := ?_) bt13_12 rfl rfl (by kernel_rfl) (fun _ _ _ h => h) (Or.inl ⟨by rfl, ?_⟩) ?_ ?_
             rotate_left
             ·intro w'
              go_simp
              with_reducible rfl
             rotate_left
             ·simp only [Act.put, setIfInBounds_toArray, set_cons_zero, set_cons_succ, i64_w, i32_w]
              rfl
             refine pure_ (i := 3) (N := some 147) (v := ?_) (a' := ?_) bt13_13 rfl rfl (by kernel_rfl) (fun _ _ _ h => h) (Or.inl ⟨by rfl, ?_⟩) ?_ ?_
             rotate_left
             ·intro w'
              go_simp
              with_reducible rfl
             rotate_left
             ·simp only [Act.put, setIfInBounds_toArray, set_cons_zero, set_cons_succ, i64_w, i32_w]
              rfl
             refine take_ (i := 0) (N := some 144) (v := ?_) (a' := ?_) bt13_14 rfl rfl (by kernel_rfl) (fun _ _ _ h => h) (Or.inl ⟨by rfl, ?_⟩) hHeld ?_ ?_
             rotate_left
             ·rintro w' ⟨s0, s1, s2, s3, s4, s5⟩
              go_simp
              with_reducible rfl
             rotate_left
             ·simp only [Act.put, setIfInBounds_toArray, set_cons_zero, set_cons_succ, i64_w, i32_w]
              rfl
             refine take_ (i := 2) (N := some 146) (v := ?_) (a' := ?_) #[true, true, true, true, false, false] rfl rfl (by kernel_rfl) (fun _ _ _ h => h) (Or.inl ⟨by rfl, ?_⟩) hHeld ?_ ?_
             rotate_left
             ·rintro w' ⟨s0, s1, s2, s3, s4, s5⟩
              go_simp
              with_reducible rfl
             rotate_left
             ·simp only [Act.put, setIfInBounds_toArray, set_cons_zero, set_cons_succ, i64_w, i32_w]
              rfl
             refine one_ (i := 4) (N := some 148) #[true, true, true, true, true, false] rfl rfl (by kernel_rfl) (by decide) (fun K hK => ?_)
             refine goes_ Tryd.func29 (by kernel_rfl) rfl #[.int .i64 t391, .agg #[.int .i64 t392, .int .i64 t393, .int .i64 t394], .int .i64 t395] (by rfl) rfl rfl (by (try simp only [map_toArray, map_cons, map_nil]); first | done | rfl | (simp only [length_drop, length_take]; rfl)) ?_
             with_reducible refine (spec_AddMonths.calls kj104 t391 t392 t393 t394 t395 t401 t402 t403 _ A113.out).mono ?_
             rintro e w126 ⟨rfl, hb⟩
             refine ⟨_, rfl, ?_⟩
             have n0_ := Aside0.mk (z13q (g := gb367) (o := .cells #[.int .i64 t364, .int .i64 t365, .int .i64 t366] 36 (0, 0)) (by (with_reducible repeat (first | refine z4q ?_ _ | refine z6q ?_ | refine z5q ?_ _)); exact BK367.out) hb)
             have n1_ := Aside0.mk (z13q (g := gb396) (o := .cells #[.int .i64 t392, .int .i64 t393, .int .i64 t394] 36 (0, 0)) (by (with_reducible repeat (first | refine z4q ?_ _ | refine z6q ?_ | refine z5q ?_ _)); exact BK396.out) hb)
             have n2_ := Aside0.mk (z13q (g := gb400) (o := .cells #[.int .i64 t397, .int .i64 t398, .int .i64 t399] 36 (0, 0)) (by (with_reducible repeat (first | refine z4q ?_ _ | refine z6q ?_ | refine z5q ?_ _)); exact BK400.out) hb)
             have n3_ := Aside0.mk (z11q (by repeat (first | (with_reducible first | exact HB.out | apply z2q | apply z0q | apply z1q | refine z3q ?_ GE367.out | refine z3q ?_ GE396.out | refine z3q ?_ GE400.out) | exact HB.out)) hb)
             clear BK367
             clear BK396
             clear BK400
             clear HB
             have BK367 := n0_
             have BK396 := n1_
             have BK400 := n2_
             have HB := n3_
             clear n0_ n1_ n2_ n3_
             (try clear hb)
             (try clear hb2)
             (try clear hk)
             (try clear hi)
             refine hK.out _ _ ⟨(z7q BK400.out 0).trans rfl, (z7q BK400.out 1).trans rfl, (z7q BK400.out 2).trans rfl, (z7q BK396.out 0).trans rfl, (z7q BK396.out 1).trans rfl, (z7q BK396.out 2).trans rfl⟩ (fun hHeld => ?_)
             clear hK K
             refine norm_ (a' := ?_) ?_ ?_
             rotate_left
             ·show Act.put _ (some 148) _ = _
              simp only [Act.put, setIfInBounds_toArray, set_cons_zero, set_cons_succ, i64_w, i32_w]
              rfl
             refine pure_ (i := 5) (N := some 149) (v := ?_) (a' := ?_) #[true, true, true, true, true, true] rfl rfl (by kernel_rfl) (fun _ _ _ h => h) (Or.inl ⟨by rfl, ?_⟩) ?_ ?_
             rotate_left
             ·intro w'
              go_simp
              with_reducible rfl
             rotate_left
             ·simp only [Act.put, setIfInBounds_toArray, set_cons_zero, set_cons_succ, i64_w, i32_w]
              rfl
             refine done_ (by kernel_rfl) ?_
             try go_wp2
             go_ret
             exact ⟨by first | rfl | (simp [errW_none, errW_some] <;> rfl) | (simp [*, errW_none, errW_some] <;> rfl), by repeat (first | (with_reducible first | exact HB.out | apply z2q | apply z0q | apply z1q | refine z3q ?_ GE367.out | refine z3q ?_ GE396.out | refine z3q ?_ GE400.out) | exact HB.out)⟩
            ·rw [if_neg c114] at H
             have c114b0 : (!(t397 == t401) || (!(t398 == t402) || (!(t399 == t403)))) = false := by simpa using c114
             clear c114
             by_cases c127 : (t397 == 0 && (t398 == 0 && (t399 == 0))) = true
             ·rw [if_pos c127] at H
              have c127b0 : (t397 == 0 && (t398 == 0 && (t399 == 0))) = true := c127
              (try (have c127b1 : decide (t397 = 0 && (t398 == 0 && (t399 == 0))) = true := by simpa using c127))
              (try (have c127b2 : (t397 == 0 && (t398 == 0 && (t399 == 0))) = true := by simpa using c127))
              clear c127
              obtain rfl := Option.some.inj H
              try go_wp2_with (first | ((with_reducible refine z9q (f := 27) rfl ?_); refine z17q (some 136) rfl rfl Tryd.func27 (by kernel_rfl) rfl #[.slice A0 l0.length c0] rfl (by (try simp only [map_toArray, map_cons, map_nil]); first | done | rfl | (simp only [length_drop, length_take]; rfl)) ?_; (with_reducible refine (spec_DrawAddMonths.calls _ _ l0 t391 t392 t393 t394 t395 _ ?side1 ?side2 A111.out).mono ?_); (case side1 => repeat (first | exact (Kd.C_below HR0.out HB.out) | (with_reducible refine Kd.C_alloc ?_ _) | (with_reducible refine Kd.C_drewN ?_ _) | (with_reducible refine Kd.C_drew ?_))); (case side2 => exact HC0.out); rintro e w128 ⟨rfl, hb⟩; refine ⟨_, rfl, ?_⟩; have n0_ := Aside0.mk (z13q (g := gb367) (o := .cells #[.int .i64 t364, .int .i64 t365, .int .i64 t366] 36 (0, 0)) (by (with_reducible repeat (first | refine z4q ?_ _ | refine z6q ?_ | refine z5q ?_ _)); exact BK367.out) hb); have n1_ := Aside0.mk (z11q (by repeat (first | (with_reducible first | exact HB.out | apply z2q | apply z0q | apply z1q | refine z3q ?_ GE367.out) | exact HB.out)) hb); clear BK367; clear HB; have BK367 := n0_; have HB := n1_; clear n0_ n1_; (try clear hb); (try clear hb2); (try clear hk); (try clear hi)) | ((with_reducible refine z22q (N := 18) rfl ?_); refine z20q ?hg (N := 18) ?hd (cs := #[.int .i64 0, .int .i64 0, .int .i64 0]) (t := 36) ?hr ?_; (case hd => rfl); (case hg => rfl); (case hr => first | (go_simp; done) | (go_simp; rfl)); intro gb396 hg w129 hbox hb; have n0_ := Aside0.mk (z13q (g := gb367) (o := .cells #[.int .i64 t364, .int .i64 t365, .int .i64 t366] 36 (0, 0)) (by (with_reducible repeat (first | refine z4q ?_ _ | refine z6q ?_ | refine z5q ?_ _)); exact BK367.out) hb); have n1_ := Aside0.mk (z11q (by repeat (first | (with_reducible first | exact HB.out | apply z2q | apply z0q | apply z1q | refine z3q ?_ GE367.out) | exact HB.out)) hb); have n2_ := Aside0.mk (hbox); have n3_ := Aside0.mk ((by rw [hg]; exact (z12q (by repeat (first | (with_reducible first | exact HB.out | apply z2q | apply z0q | apply z1q | refine z3q ?_ GE367.out) | exact HB.out))) : w.heap.size ≤ gb396)); have n4_ := Aside0.mk ((by rw [hg]; exact (z12q (by repeat (first | (with_reducible first | exact HB.out | apply z2q | apply z0q | apply z1q | refine z3q ?_ GE367.out) | exact HB.out))) : w.heap.size ≤ gb396)); have n5_ := Aside0.mk ((by rw [hg]; exact Nat.ne_of_lt (z21q (g := gb367) (o := .cells #[.int .i64 t364, .int .i64 t365, .int .i64 t366] 36 (0, 0)) (by (with_reducible repeat (first | refine z4q ?_ _ | refine z6q ?_ | refine z5q ?_ _)); exact BK367.out)) : gb367 ≠ gb396)); have n6_ := Aside0.mk ((by rw [hg]; exact Nat.ne_of_gt (z21q (g := gb367) (o := .cells #[.int .i64 t364, .int .i64 t365, .int .i64 t366] 36 (0, 0)) (by (with_reducible repeat (first | refine z4q ?_ _ | refine z6q ?_ | refine z5q ?_ _)); exact BK367.out)) : gb396 ≠ gb367)); clear BK367; clear HB; have BK367 := n0_; have HB := n1_; have BK396 := n2_; have GW396 := n3_; have GE396 := n4_; have NB367_396 := n5_; have NB396_367 := n6_; clear n0_ n1_ n2_ n3_ n4_ n5_ n6_; clear hb hbox hg; have hnb130 := NB396_367.out; have hnc130 := NB367_396.out; have hcz131_0 : w129.cell? ⟨gb396, 0, none⟩ = some (.int .i64 0) := (z7q BK396.out 0).trans rfl; have hcz131_1 : w129.cell? ⟨gb396, 1, none⟩ = some (.int .i64 0) := (z7q BK396.out 1).trans rfl; have hcz131_2 : w129.cell? ⟨gb396, 2, none⟩ = some (.int .i64 0) := (z7q BK396.out 2).trans rfl; have hfz131_0 := z8q BK396.out 0; have hfz131_1 := z8q BK396.out 1; have hfz131_2 := z8q BK396.out 2) | ((with_reducible refine z9q (f := 28) rfl ?_); refine z17q (some 143) rfl rfl Tryd.func28 (by kernel_rfl) rfl #[.int .i64 t391, .agg #[.int .i64 t392, .int .i64 t393, .int .i64 t394], .int .i64 t395] rfl (by (try simp only [map_toArray, map_cons, map_nil]); first | done | rfl | (simp only [length_drop, length_take]; rfl)) ?_; (with_reducible refine (impl_AddMonths.calls kj104 t391 t392 t393 t394 t395 t397 t398 t399 _ (hT.below (by repeat (first | exact HB.out | exact Below.refl _ _ | apply z2q | apply z0q | apply z1q | refine z3q ?_ GE367.out | refine z3q ?_ GE378.out | refine z3q ?_ GE396.out | refine z3q ?_ GE400.out | refine z3q ?_ GE407.out))) A112.out).mono ?_); rintro e w132 ⟨rfl, hb⟩; refine ⟨_, rfl, ?_⟩; have n0_ := Aside0.mk (z13q (g := gb367) (o := .cells #[.int .i64 t364, .int .i64 t365, .int .i64 t366] 36 (0, 0)) (by (with_reducible repeat (first | refine z4q ?_ _ | refine z6q ?_ | refine z5q ?_ _)); refine z18q ?_ NB367_396.out _; (with_reducible repeat (first | refine z4q ?_ _ | refine z6q ?_ | refine z5q ?_ _)); refine z18q ?_ NB367_396.out _; (with_reducible repeat (first | refine z4q ?_ _ | refine z6q ?_ | refine z5q ?_ _)); refine z18q ?_ NB367_396.out _; (with_reducible repeat (first | refine z4q ?_ _ | refine z6q ?_ | refine z5q ?_ _)); exact BK367.out) hb); have n1_ := Aside0.mk (z13q (g := gb396) (o := .cells #[.int .i64 t392, .int .i64 t393, .int .i64 t394] 36 (0, 0)) (by (with_reducible repeat (first | refine z4q ?_ _ | refine z6q ?_ | refine z5q ?_ _)); refine z14q (cs := #[.int .i64 t392, .int .i64 t393, .int .i64 0]) ?_ 2 _ rfl; (with_reducible repeat (first | refine z4q ?_ _ | refine z6q ?_ | refine z5q ?_ _)); refine z14q (cs := #[.int .i64 t392, .int .i64 0, .int .i64 0]) ?_ 1 _ rfl; (with_reducible repeat (first | refine z4q ?_ _ | refine z6q ?_ | refine z5q ?_ _)); refine z14q (cs := #[.int .i64 0, .int .i64 0, .int .i64 0]) ?_ 0 _ rfl; (with_reducible repeat (first | refine z4q ?_ _ | refine z6q ?_ | refine z5q ?_ _)); exact BK396.out) hb); have n2_ := Aside0.mk (z11q (by repeat (first | (with_reducible first | exact HB.out | apply z2q | apply z0q | apply z1q | refine z3q ?_ GE367.out | refine z3q ?_ GE396.out) | exact HB.out)) hb); clear BK367; clear BK396; clear HB; have BK367 := n0_; have BK396 := n1_; have HB := n2_; clear n0_ n1_ n2_; (try clear hb); (try clear hb2); (try clear hk); (try clear hi)) | ((with_reducible refine z22q (N := 20) rfl ?_); refine z20q ?hg (N := 20) ?hd (cs := #[.int .i64 0, .int .i64 0, .int .i64 0]) (t := 36) ?hr ?_; (case hd => rfl); (case hg => rfl); (case hr => first | (go_simp; done) | (go_simp; rfl)); intro gb400 hg w133 hbox hb; have n0_ := Aside0.mk (z13q (g := gb367) (o := .cells #[.int .i64 t364, .int .i64 t365, .int .i64 t366] 36 (0, 0)) (by (with_reducible repeat (first | refine z4q ?_ _ | refine z6q ?_ | refine z5q ?_ _)); exact BK367.out) hb); have n1_ := Aside0.mk (z13q (g := gb396) (o := .cells #[.int .i64 t392, .int .i64 t393, .int .i64 t394] 36 (0, 0)) (by (with_reducible repeat (first | refine z4q ?_ _ | refine z6q ?_ | refine z5q ?_ _)); exact BK396.out) hb); have n2_ := Aside0.mk (z11q (by repeat (first | (with_reducible first | exact HB.out | apply z2q | apply z0q | apply z1q | refine z3q ?_ GE367.out | refine z3q ?_ GE396.out) | exact HB.out)) hb); have n3_ := Aside0.mk (hbox); have n4_ := Aside0.mk ((by rw [hg]; exact (z12q (by repeat (first | (with_reducible first | exact HB.out | apply z2q | apply z0q | apply z1q | refine z3q ?_ GE367.out | refine z3q ?_ GE396.out) | exact HB.out))) : w.heap.size ≤ gb400)); have n5_ := Aside0.mk ((by rw [hg]; exact (z12q (by repeat (first | (with_reducible first | exact HB.out | apply z2q | apply z0q | apply z1q | refine z3q ?_ GE367.out | refine z3q ?_ GE396.out) | exact HB.out))) : w.heap.size ≤ gb400)); have n6_ := Aside0.mk ((by rw [hg]; exact Nat.ne_of_lt (z21q (g := gb367) (o := .cells #[.int .i64 t364, .int .i64 t365, .int .i64 t366] 36 (0, 0)) (by (with_reducible repeat (first | refine z4q ?_ _ | refine z6q ?_ | refine z5q ?_ _)); exact BK367.out)) : gb367 ≠ gb400)); have n7_ := Aside0.mk ((by rw [hg]; exact Nat.ne_of_gt (z21q (g := gb367) (o := .cells #[.int .i64 t364, .int .i64 t365, .int .i64 t366] 36 (0, 0)) (by (with_reducible repeat (first | refine z4q ?_ _ | refine z6q ?_ | refine z5q ?_ _)); exact BK367.out)) : gb400 ≠ gb367)); have n8_ := Aside0.mk ((by rw [hg]; exact Nat.ne_of_lt (z21q (g := gb396) (o := .cells #[.int .i64 t392, .int .i64 t393, .int .i64 t394] 36 (0, 0)) (by (with_reducible repeat (first | refine z4q ?_ _ | refine z6q ?_ | refine z5q ?_ _)); exact BK396.out)) : gb396 ≠ gb400)); have n9_ := Aside0.mk ((by rw [hg]; exact Nat.ne_of_gt (z21q (g := gb396) (o := .cells #[.int .i64 t392, .int .i64 t393, .int .i64 t394] 36 (0, 0)) (by (with_reducible repeat (first | refine z4q ?_ _ | refine z6q ?_ | refine z5q ?_ _)); exact BK396.out)) : gb400 ≠ gb396)); clear BK367; clear BK396; clear HB; have BK367 := n0_; have BK396 := n1_; have HB := n2_; have BK400 := n3_; have GW400 := n4_; have GE400 := n5_; have NB367_400 := n6_; have NB400_367 := n7_; have NB396_400 := n8_; have NB400_396 := n9_; clear n0_ n1_ n2_ n3_ n4_ n5_ n6_ n7_ n8_ n9_; clear hb hbox hg; have hnb134 := NB400_367.out; have hnc134 := NB367_400.out; have hnb135 := NB400_396.out; have hnc135 := NB396_400.out; have hcz136_0 : w133.cell? ⟨gb400, 0, none⟩ = some (.int .i64 0) := (z7q BK400.out 0).trans rfl; have hcz136_1 : w133.cell? ⟨gb400, 1, none⟩ = some (.int .i64 0) := (z7q BK400.out 1).trans rfl; have hcz136_2 : w133.cell? ⟨gb400, 2, none⟩ = some (.int .i64 0) := (z7q BK400.out 2).trans rfl; have hfz136_0 := z8q BK400.out 0; have hfz136_1 := z8q BK400.out 1; have hfz136_2 := z8q BK400.out 2))
              have n0_ : Aside0 ((((w133.setCell ⟨gb400, 0, none⟩ (.int .i64 t397)).setCell ⟨gb400, 1, none⟩ (.int .i64 t398)).setCell ⟨gb400, 2, none⟩ (.int .i64 t399)).heap[gb367]? = some (.cells #[.int .i64 t364, .int .i64 t365, .int .i64 t366] 36 (0, 0))) := ⟨by (with_reducible repeat (first | refine z4q ?_ _ | refine z6q ?_ | refine z5q ?_ _)); refine z18q ?_ NB367_400.out _; (with_reducible repeat (first | refine z4q ?_ _ | refine z6q ?_ | refine z5q ?_ _)); refine z18q ?_ NB367_400.out _; (with_reducible repeat (first | refine z4q ?_ _ | refine z6q ?_ | refine z5q ?_ _)); refine z18q ?_ NB367_400.out _; (with_reducible repeat (first | refine z4q ?_ _ | refine z6q ?_ | refine z5q ?_ _)); exact BK367.out⟩
              have n1_ : Aside0 ((((w133.setCell ⟨gb400, 0, none⟩ (.int .i64 t397)).setCell ⟨gb400, 1, none⟩ (.int .i64 t398)).setCell ⟨gb400, 2, none⟩ (.int .i64 t399)).heap[gb396]? = some (.cells #[.int .i64 t392, .int .i64 t393, .int .i64 t394] 36 (0, 0))) := ⟨by (with_reducible repeat (first | refine z4q ?_ _ | refine z6q ?_ | refine z5q ?_ _)); refine z18q ?_ NB396_400.out _; (with_reducible repeat (first | refine z4q ?_ _ | refine z6q ?_ | refine z5q ?_ _)); refine z18q ?_ NB396_400.out _; (with_reducible repeat (first | refine z4q ?_ _ | refine z6q ?_ | refine z5q ?_ _)); refine z18q ?_ NB396_400.out _; (with_reducible repeat (first | refine z4q ?_ _ | refine z6q ?_ | refine z5q ?_ _)); exact BK396.out⟩
              have n2_ : Aside0 ((((w133.setCell ⟨gb400, 0, none⟩ (.int .i64 t397)).setCell ⟨gb400, 1, none⟩ (.int .i64 t398)).setCell ⟨gb400, 2, none⟩ (.int .i64 t399)).heap[gb400]? = some (.cells #[.int .i64 t397, .int .i64 t398, .int .i64 t399] 36 (0, 0))) := ⟨by (with_reducible repeat (first | refine z4q ?_ _ | refine z6q ?_ | refine z5q ?_ _)); refine z14q (cs := #[.int .i64 t397, .int .i64 t398, .int .i64 0]) ?_ 2 _ rfl; (with_reducible repeat (first | refine z4q ?_ _ | refine z6q ?_ | refine z5q ?_ _)); refine z14q (cs := #[.int .i64 t397, .int .i64 0, .int .i64 0]) ?_ 1 _ rfl; (with_reducible repeat (first | refine z4q ?_ _ | refine z6q ?_ | refine z5q ?_ _)); refine z14q (cs := #[.int .i64 0, .int .i64 0, .int .i64 0]) ?_ 0 _ rfl; (with_reducible repeat (first | refine z4q ?_ _ | refine z6q ?_ | refine z5q ?_ _)); exact BK400.out⟩
              have n3_ : Aside0 (Below w.heap.size w (((w133.setCell ⟨gb400, 0, none⟩ (.int .i64 t397)).setCell ⟨gb400, 1, none⟩ (.int .i64 t398)).setCell ⟨gb400, 2, none⟩ (.int .i64 t399))) := ⟨by repeat (first | (with_reducible first | exact HB.out | apply z2q | apply z0q | apply z1q | refine z3q ?_ GE367.out | refine z3q ?_ GE396.out | refine z3q ?_ GE400.out) | exact HB.out)⟩
              (try clear BK367)
              (try clear BK396)
              (try clear BK400)
              (try clear HB)
              generalize (((w133.setCell ⟨gb400, 0, none⟩ (.int .i64 t397)).setCell ⟨gb400, 1, none⟩ (.int .i64 t398)).setCell ⟨gb400, 2, none⟩ (.int .i64 t399)) = w137 at n0_ n1_ n2_ n3_ ⊢
              have BK367 := n0_
              have BK396 := n1_
              have BK400 := n2_
              have HB := n3_
              clear n0_ n1_ n2_ n3_
              have n0_ := Aside0.mk (z6q BK367.out)
              have n1_ := Aside0.mk (z6q BK396.out)
              have n2_ := Aside0.mk (z6q BK400.out)
              have n3_ := Aside0.mk (z1q HB.out)
              clear BK367
              clear BK396
              clear BK400
              clear HB
              have BK367 := n0_
              have BK396 := n1_
              have BK400 := n2_
              have HB := n3_
              clear n0_ n1_ n2_ n3_
              refine start_ (n := 6) (S := fun w' => w'.cell? ⟨gb400, 0, none⟩ = some (.int .i64 t397) ∧ w'.cell? ⟨gb400, 1, none⟩ = some (.int .i64 t398) ∧ w'.cell? ⟨gb400, 2, none⟩ = some (.int .i64 t399) ∧ w'.cell? ⟨gb396, 0, none⟩ = some (.int .i64 t392) ∧ w'.cell? ⟨gb396, 1, none⟩ = some (.int .i64 t393) ∧ w'.cell? ⟨gb396, 2, none⟩ = some (.int .i64 t394)) (ds := []) bt13_11 (by kernel_rfl) rfl rfl ⟨(z7q BK400.out 0).trans rfl, (z7q BK400.out 1).trans rfl, (z7q BK400.out 2).trans rfl, (z7q BK396.out 0).trans rfl, (z7q BK396.out 1).trans rfl, (z7q BK396.out 2).trans rfl⟩ (fun hHeld => ?_)
              generalize w137.drew = w138 at BK367 BK396 BK400 HB hHeld ⊢
              refine pure_ (i := 1) (N := some 145) (v := ?_) (a' := ?_) bt13_12 rfl rfl (by kernel_rfl) (fun _ _ _ h => h) (Or.inl ⟨by rfl, ?_⟩) ?_ ?_
              rotate_left
              ·intro w'
               go_simp
               with_reducible rfl
              rotate_left
              ·simp only [Act.put, setIfInBounds_toArray, set_cons_zero, set_cons_succ, i64_w, i32_w]
               rfl
              refine pure_ (i := 3) (N := some 147) (v := ?_) (a' := ?_) bt13_13 rfl rfl (by kernel_rfl) (fun _ _ _ h => h) (Or.inl ⟨by rfl, ?_⟩) ?_ ?_
              rotate_left
              ·intro w'
               go_simp
               with_reducible rfl
              rotate_left
              ·simp only [Act.put, setIfInBounds_toArray, set_cons_zero, set_cons_succ, i64_w, i32_w]
               rfl
              refine take_ (i := 0) (N := some 144) (v := ?_) (a' := ?_) bt13_14 rfl rfl (by kernel_rfl) (fun _ _ _ h => h) (Or.inl ⟨by rfl, ?_⟩) hHeld ?_ ?_
              rotate_left
              ·rintro w' ⟨s0, s1, s2, s3, s4, s5⟩
               go_simp
               with_reducible rfl
              rotate_left
              ·simp only [Act.put, setIfInBounds_toArray, set_cons_zero, set_cons_succ, i64_w, i32_w]
               rfl
              refine take_ (i := 2) (N := some 146) (v := ?_) (a' := ?_) #[true, true, true, true, false, false] rfl rfl (by kernel_rfl) (fun _ _ _ h => h) (Or.inl ⟨by rfl, ?_⟩) hHeld ?_ ?_
              rotate_left
              ·rintro w' ⟨s0, s1, s2, s3, s4, s5⟩
               go_simp
               with_reducible rfl
              rotate_left
              ·simp only [Act.put, setIfInBounds_toArray, set_cons_zero, set_cons_succ, i64_w, i32_w]
               rfl
              refine one_ (i := 4) (N := some 148) #[true, true, true, true, true, false] rfl rfl (by kernel_rfl) (by decide) (fun K hK => ?_)
              refine goes_ Tryd.func29 (by kernel_rfl) rfl #[.int .i64 t391, .agg #[.int .i64 t392, .int .i64 t393, .int .i64 t394], .int .i64 t395] (by rfl) rfl rfl (by (try simp only [map_toArray, map_cons, map_nil]); first | done | rfl | (simp only [length_drop, length_take]; rfl)) ?_
              with_reducible refine (spec_AddMonths.calls kj104 t391 t392 t393 t394 t395 t401 t402 t403 _ A113.out).mono ?_
              rintro e w139 ⟨rfl, hb⟩
              refine ⟨_, rfl, ?_⟩
              have n0_ := Aside0.mk (z13q (g := gb367) (o := .cells #[.int .i64 t364, .int .i64 t365, .int .i64 t366] 36 (0, 0)) (by (with_reducible repeat (first | refine z4q ?_ _ | refine z6q ?_ | refine z5q ?_ _)); exact BK367.out) hb)
              have n1_ := Aside0.mk (z13q (g := gb396) (o := .cells #[.int .i64 t392, .int .i64 t393, .int .i64 t394] 36 (0, 0)) (by (with_reducible repeat (first | refine z4q ?_ _ | refine z6q ?_ | refine z5q ?_ _)); exact BK396.out) hb)
              have n2_ := Aside0.mk (z13q (g := gb400) (o := .cells #[.int .i64 t397, .int .i64 t398, .int .i64 t399] 36 (0, 0)) (by (with_reducible repeat (first | refine z4q ?_ _ | refine z6q ?_ | refine z5q ?_ _)); exact BK400.out) hb)
              have n3_ := Aside0.mk (z11q (by repeat (first | (with_reducible first | exact HB.out | apply z2q | apply z0q | apply z1q | refine z3q ?_ GE367.out | refine z3q ?_ GE396.out | refine z3q ?_ GE400.out) | exact HB.out)) hb)
              clear BK367
              clear BK396
              clear BK400
              clear HB
              have BK367 := n0_
              have BK396 := n1_
              have BK400 := n2_
              have HB := n3_
              clear n0_ n1_ n2_ n3_
              (try clear hb)
              (try clear hb2)
              (try clear hk)
              (try clear hi)
              refine hK.out _ _ ⟨(z7q BK400.out 0).trans rfl, (z7q BK400.out 1).trans rfl, (z7q BK400.out 2).trans rfl, (z7q BK396.out 0).trans rfl, (z7q BK396.out 1).trans rfl, (z7q BK396.out 2).trans rfl⟩ (fun hHeld => ?_)
              clear hK K
              refine norm_ (a' := ?_) ?_ ?_
              rotate_left
              ·show Act.put _ (some 148) _ = _
               simp only [Act.put, setIfInBounds_toArray, set_cons_zero, set_cons_succ, i64_w, i32_w]
               rfl
              refine pure_ (i := 5) (N := some 149) (v := ?_) (a' := ?_) #[true, true, true, true, true, true] rfl rfl (by kernel_rfl) (fun _ _ _ h => h) (Or.inl ⟨by rfl, ?_⟩) ?_ ?_
              rotate_left
              ·intro w'
               go_simp
               with_reducible rfl
              rotate_left
              ·simp only [Act.put, setIfInBounds_toArray, set_cons_zero, set_cons_succ, i64_w, i32_w]
               rfl
              refine done_ (by kernel_rfl) ?_
              have hcz140_0 : w139.cell? ⟨gb400, 0, none⟩ = some (.int .i64 t397) := (z7q BK400.out 0).trans rfl
              have hcz140_1 : w139.cell? ⟨gb400, 1, none⟩ = some (.int .i64 t398) := (z7q BK400.out 1).trans rfl
              have hcz140_2 : w139.cell? ⟨gb400, 2, none⟩ = some (.int .i64 t399) := (z7q BK400.out 2).trans rfl
              have hfz140_0 := z8q BK400.out 0
              have hfz140_1 := z8q BK400.out 1
              have hfz140_2 := z8q BK400.out 2
              try go_wp2
              go_ret
              exact ⟨by first | rfl | (simp [errW_none, errW_some] <;> rfl) | (simp [*, errW_none, errW_some] <;> rfl), by repeat (first | (with_reducible first | exact HB.out | apply z2q | apply z0q | apply z1q | refine z3q ?_ GE367.out | refine z3q ?_ GE396.out | refine z3q ?_ GE400.out) | exact HB.out)⟩
             ·rw [if_neg c127] at H
              have c127b0 : (t397 == 0 && (t398 == 0 && (t399 == 0))) = false := by simpa using c127
              (try (have c127b1 : decide (t397 = 0 && (t398 == 0 && (t399 == 0))) = false := by simpa using c127))
              (try (have c127b2 : (t397 == 0 && (t398 == 0 && (t399 == 0))) = false := by simpa using c127))
              (try (have c127b3 : ¬ (t397 = 0 && (t398 == 0 && (t399 == 0))) := by simpa using c127))
              clear c127
              replace H := Option.bind_eq_some_iff.mp H
              obtain ⟨⟨t404, t405, t406⟩, A1410, H⟩ := H
              replace H : (if t404 = t392 then (if t405 = t393 then (some (decide (t406 ≤ t394))) else (some false)) else (some false)) = some r := H
              have A141 := Aside0.mk A1410
              clear A1410
              by_cases c142 : t404 = t392
              ·rw [if_pos c142] at H
               have c142b0 : (t404 == t392) = true := beq_iff_eq.mpr c142
               have c142b1 : (t404 != t392) = false := bne_eq_false_iff_eq.mpr c142
               clear c142
               by_cases c143 : t405 = t393
               ·rw [if_pos c143] at H
                have c143b0 : (t405 == t393) = true := beq_iff_eq.mpr c143
                have c143b1 : (t405 != t393) = false := bne_eq_false_iff_eq.mpr c143
                clear c143
                obtain rfl := Option.some.inj H
                try go_wp2_with (first | ((with_reducible refine z9q (f := 27) rfl ?_); refine z17q (some 136) rfl rfl Tryd.func27 (by kernel_rfl) rfl #[.slice A0 l0.length c0] rfl (by (try simp only [map_toArray, map_cons, map_nil]); first | done | rfl | (simp only [length_drop, length_take]; rfl)) ?_; (with_reducible refine (spec_DrawAddMonths.calls _ _ l0 t391 t392 t393 t394 t395 _ ?side1 ?side2 A111.out).mono ?_); (case side1 => repeat (first | exact (Kd.C_below HR0.out HB.out) | (with_reducible refine Kd.C_alloc ?_ _) | (with_reducible refine Kd.C_drewN ?_ _) | (with_reducible refine Kd.C_drew ?_))); (case side2 => exact HC0.out); rintro e w144 ⟨rfl, hb⟩; refine ⟨_, rfl, ?_⟩; have n0_ := Aside0.mk (z13q (g := gb367) (o := .cells #[.int .i64 t364, .int .i64 t365, .int .i64 t366] 36 (0, 0)) (by (with_reducible repeat (first | refine z4q ?_ _ | refine z6q ?_ | refine z5q ?_ _)); exact BK367.out) hb); have n1_ := Aside0.mk (z11q (by repeat (first | (with_reducible first | exact HB.out | apply z2q | apply z0q | apply z1q | refine z3q ?_ GE367.out) | exact HB.out)) hb); clear BK367; clear HB; have BK367 := n0_; have HB := n1_; clear n0_ n1_; (try clear hb); (try clear hb2); (try clear hk); (try clear hi)) | ((with_reducible refine z22q (N := 18) rfl ?_); refine z20q ?hg (N := 18) ?hd (cs := #[.int .i64 0, .int .i64 0, .int .i64 0]) (t := 36) ?hr ?_; (case hd => rfl); (case hg => rfl); (case hr => first | (go_simp; done) | (go_simp; rfl)); intro gb396 hg w145 hbox hb; have n0_ := Aside0.mk (z13q (g := gb367) (o := .cells #[.int .i64 t364, .int .i64 t365, .int .i64 t366] 36 (0, 0)) (by (with_reducible repeat (first | refine z4q ?_ _ | refine z6q ?_ | refine z5q ?_ _)); exact BK367.out) hb); have n1_ := Aside0.mk (z11q (by repeat (first | (with_reducible first | exact HB.out | apply z2q | apply z0q | apply z1q | refine z3q ?_ GE367.out) | exact HB.out)) hb); have n2_ := Aside0.mk (hbox); have n3_ := Aside0.mk ((by rw [hg]; exact (z12q (by repeat (first | (with_reducible first | exact HB.out | apply z2q | apply z0q | apply z1q | refine z3q ?_ GE367.out) | exact HB.out))) : w.heap.size ≤ gb396)); have n4_ := Aside0.mk ((by rw [hg]; exact (z12q (by repeat (first | (with_reducible first | exact HB.out | apply z2q | apply z0q | apply z1q | refine z3q ?_ GE367.out) | exact HB.out))) : w.heap.size ≤ gb396)); have n5_ := Aside0.mk ((by rw [hg]; exact Nat.ne_of_lt (z21q (g := gb367) (o := .cells #[.int .i64 t364, .int .i64 t365, .int .i64 t366] 36 (0, 0)) (by (with_reducible repeat (first | refine z4q ?_ _ | refine z6q ?_ | refine z5q ?_ _)); exact BK367.out)) : gb367 ≠ gb396)); have n6_ := Aside0.mk ((by rw [hg]; exact Nat.ne_of_gt (z21q (g := gb367) (o := .cells #[.int .i64 t364, .int .i64 t365, .int .i64 t366] 36 (0, 0)) (by (with_reducible repeat (first | refine z4q ?_ _ | refine z6q ?_ | refine z5q ?_ _)); exact BK367.out)) : gb396 ≠ gb367)); clear BK367; clear HB; have BK367 := n0_; have HB := n1_; have BK396 := n2_; have GW396 := n3_; have GE396 := n4_; have NB367_396 := n5_; have NB396_367 := n6_; clear n0_ n1_ n2_ n3_ n4_ n5_ n6_; clear hb hbox hg; have hnb146 := NB396_367.out; have hnc146 := NB367_396.out; have hcz147_0 : w145.cell? ⟨gb396, 0, none⟩ = some (.int .i64 0) := (z7q BK396.out 0).trans rfl; have hcz147_1 : w145.cell? ⟨gb396, 1, none⟩ = some (.int .i64 0) := (z7q BK396.out 1).trans rfl; have hcz147_2 : w145.cell? ⟨gb396, 2, none⟩ = some (.int .i64 0) := (z7q BK396.out 2).trans rfl; have hfz147_0 := z8q BK396.out 0; have hfz147_1 := z8q BK396.out 1; have hfz147_2 := z8q BK396.out 2) | ((with_reducible refine z9q (f := 28) rfl ?_); refine z17q (some 143) rfl rfl Tryd.func28 (by kernel_rfl) rfl #[.int .i64 t391, .agg #[.int .i64 t392, .int .i64 t393, .int .i64 t394], .int .i64 t395] rfl (by (try simp only [map_toArray, map_cons, map_nil]); first | done | rfl | (simp only [length_drop, length_take]; rfl)) ?_; (with_reducible refine (impl_AddMonths.calls kj104 t391 t392 t393 t394 t395 t397 t398 t399 _ (hT.below (by repeat (first | exact HB.out | exact Below.refl _ _ | apply z2q | apply z0q | apply z1q | refine z3q ?_ GE367.out | refine z3q ?_ GE378.out | refine z3q ?_ GE396.out | refine z3q ?_ GE400.out | refine z3q ?_ GE407.out))) A112.out).mono ?_); rintro e w148 ⟨rfl, hb⟩; refine ⟨_, rfl, ?_⟩; have n0_ := Aside0.mk (z13q (g := gb367) (o := .cells #[.int .i64 t364, .int .i64 t365, .int .i64 t366] 36 (0, 0)) (by (with_reducible repeat (first | refine z4q ?_ _ | refine z6q ?_ | refine z5q ?_ _)); refine z18q ?_ NB367_396.out _; (with_reducible repeat (first | refine z4q ?_ _ | refine z6q ?_ | refine z5q ?_ _)); refine z18q ?_ NB367_396.out _; (with_reducible repeat (first | refine z4q ?_ _ | refine z6q ?_ | refine z5q ?_ _)); refine z18q ?_ NB367_396.out _; (with_reducible repeat (first | refine z4q ?_ _ | refine z6q ?_ | refine z5q ?_ _)); exact BK367.out) hb); have n1_ := Aside0.mk (z13q (g := gb396) (o := .cells #[.int .i64 t392, .int .i64 t393, .int .i64 t394] 36 (0, 0)) (by (with_reducible repeat (first | refine z4q ?_ _ | refine z6q ?_ | refine z5q ?_ _)); refine z14q (cs := #[.int .i64 t392, .int .i64 t393, .int .i64 0]) ?_ 2 _ rfl; (with_reducible repeat (first | refine z4q ?_ _ | refine z6q ?_ | refine z5q ?_ _)); refine z14q (cs := #[.int .i64 t392, .int .i64 0, .int .i64 0]) ?_ 1 _ rfl; (with_reducible repeat (first | refine z4q ?_ _ | refine z6q ?_ | refine z5q ?_ _)); refine z14q (cs := #[.int .i64 0, .int .i64 0, .int .i64 0]) ?_ 0 _ rfl; (with_reducible repeat (first | refine z4q ?_ _ | refine z6q ?_ | refine z5q ?_ _)); exact BK396.out) hb); have n2_ := Aside0.mk (z11q (by repeat (first | (with_reducible first | exact HB.out | apply z2q | apply z0q | apply z1q | refine z3q ?_ GE367.out | refine z3q ?_ GE396.out) | exact HB.out)) hb); clear BK367; clear BK396; clear HB; have BK367 := n0_; have BK396 := n1_; have HB := n2_; clear n0_ n1_ n2_; (try clear hb); (try clear hb2); (try clear hk); (try clear hi)) | ((with_reducible refine z22q (N := 20) rfl ?_); refine z20q ?hg (N := 20) ?hd (cs := #[.int .i64 0, .int .i64 0, .int .i64 0]) (t := 36) ?hr ?_; (case hd => rfl); (case hg => rfl); (case hr => first | (go_simp; done) | (go_simp; rfl)); intro gb400 hg w149 hbox hb; have n0_ := Aside0.mk (z13q (g := gb367) (o := .cells #[.int .i64 t364, .int .i64 t365, .int .i64 t366] 36 (0, 0)) (by (with_reducible repeat (first | refine z4q ?_ _ | refine z6q ?_ | refine z5q ?_ _)); exact BK367.out) hb); have n1_ := Aside0.mk (z13q (g := gb396) (o := .cells #[.int .i64 t392, .int .i64 t393, .int .i64 t394] 36 (0, 0)) (by (with_reducible repeat (first | refine z4q ?_ _ | refine z6q ?_ | refine z5q ?_ _)); exact BK396.out) hb); have n2_ := Aside0.mk (z11q (by repeat (first | (with_reducible first | exact HB.out | apply z2q | apply z0q | apply z1q | refine z3q ?_ GE367.out | refine z3q ?_ GE396.out) | exact HB.out)) hb); have n3_ := Aside0.mk (hbox); have n4_ := Aside0.mk ((by rw [hg]; exact (z12q (by repeat (first | (with_reducible first | exact HB.out | apply z2q | apply z0q | apply z1q | refine z3q ?_ GE367.out | refine z3q ?_ GE396.out) | exact HB.out))) : w.heap.size ≤ gb400)); have n5_ := Aside0.mk ((by rw [hg]; exact (z12q (by repeat (first | (with_reducible first | exact HB.out | apply z2q | apply z0q | apply z1q | refine z3q ?_ GE367.out | refine z3q ?_ GE396.out) | exact HB.out))) : w.heap.size ≤ gb400)); have n6_ := Aside0.mk ((by rw [hg]; exact Nat.ne_of_lt (z21q (g := gb367) (o := .cells #[.int .i64 t364, .int .i64 t365, .int .i64 t366] 36 (0, 0)) (by (with_reducible repeat (first | refine z4q ?_ _ | refine z6q ?_ | refine z5q ?_ _)); exact BK367.out)) : gb367 ≠ gb400)); have n7_ := Aside0.mk ((by rw [hg]; exact Nat.ne_of_gt (z21q (g := gb367) (o := .cells #[.int .i64 t364, .int .i64 t365, .int .i64 t366] 36 (0, 0)) (by (with_reducible repeat (first | refine z4q ?_ _ | refine z6q ?_ | refine z5q ?_ _)); exact BK367.out)) : gb400 ≠ gb367)); have n8_ := Aside0.mk ((by rw [hg]; exact Nat.ne_of_lt (z21q (g := gb396) (o := .cells #[.int .i64 t392, .int .i64 t393, .int .i64 t394] 36 (0, 0)) (by (with_reducible repeat (first | refine z4q ?_ _ | refine z6q ?_ | refine z5q ?_ _)); exact BK396.out)) : gb396 ≠ gb400)); have n9_ := Aside0.mk ((by rw [hg]; exact Nat.ne_of_gt (z21q (g := gb396) (o := .cells #[.int .i64 t392, .int .i64 t393, .int .i64 t394] 36 (0, 0)) (by (with_reducible repeat (first | refine z4q ?_ _ | refine z6q ?_ | refine z5q ?_ _)); exact BK396.out)) : gb400 ≠ gb396)); clear BK367; clear BK396; clear HB; have BK367 := n0_; have BK396 := n1_; have HB := n2_; have BK400 := n3_; have GW400 := n4_; have GE400 := n5_; have NB367_400 := n6_; have NB400_367 := n7_; have NB396_400 := n8_; have NB400_396 := n9_; clear n0_ n1_ n2_ n3_ n4_ n5_ n6_ n7_ n8_ n9_; clear hb hbox hg; have hnb150 := NB400_367.out; have hnc150 := NB367_400.out; have hnb151 := NB400_396.out; have hnc151 := NB396_400.out; have hcz152_0 : w149.cell? ⟨gb400, 0, none⟩ = some (.int .i64 0) := (z7q BK400.out 0).trans rfl; have hcz152_1 : w149.cell? ⟨gb400, 1, none⟩ = some (.int .i64 0) := (z7q BK400.out 1).trans rfl; have hcz152_2 : w149.cell? ⟨gb400, 2, none⟩ = some (.int .i64 0) := (z7q BK400.out 2).trans rfl; have hfz152_0 := z8q BK400.out 0; have hfz152_1 := z8q BK400.out 1; have hfz152_2 := z8q BK400.out 2))
                have n0_ : Aside0 ((((w149.setCell ⟨gb400, 0, none⟩ (.int .i64 t397)).setCell ⟨gb400, 1, none⟩ (.int .i64 t398)).setCell ⟨gb400, 2, none⟩ (.int .i64 t399)).heap[gb367]? = some (.cells #[.int .i64 t364, .int .i64 t365, .int .i64 t366] 36 (0, 0))) := ⟨by (with_reducible repeat (first | refine z4q ?_ _ | refine z6q ?_ | refine z5q ?_ _)); refine z18q ?_ NB367_400.out _; (with_reducible repeat (first | refine z4q ?_ _ | refine z6q ?_ | refine z5q ?_ _)); refine z18q ?_ NB367_400.out _; (with_reducible repeat (first | refine z4q ?_ _ | refine z6q ?_ | refine z5q ?_ _)); refine z18q ?_ NB367_400.out _; (with_reducible repeat (first | refine z4q ?_ _ | refine z6q ?_ | refine z5q ?_ _)); exact BK367.out⟩
                have n1_ : Aside0 ((((w149.setCell ⟨gb400, 0, none⟩ (.int .i64 t397)).setCell ⟨gb400, 1, none⟩ (.int .i64 t398)).setCell ⟨gb400, 2, none⟩ (.int .i64 t399)).heap[gb396]? = some (.cells #[.int .i64 t392, .int .i64 t393, .int .i64 t394] 36 (0, 0))) := ⟨by (with_reducible repeat (first | refine z4q ?_ _ | refine z6q ?_ | refine z5q ?_ _)); refine z18q ?_ NB396_400.out _; (with_reducible repeat (first | refine z4q ?_ _ | refine z6q ?_ | refine z5q ?_ _)); refine z18q ?_ NB396_400.out _; (with_reducible repeat (first | refine z4q ?_ _ | refine z6q ?_ | refine z5q ?_ _)); refine z18q ?_ NB396_400.out _; (with_reducible repeat (first | refine z4q ?_ _ | refine z6q ?_ | refine z5q ?_ _)); exact BK396.out⟩
                have n2_ : Aside0 ((((w149.setCell ⟨gb400, 0, none⟩ (.int .i64 t397)).setCell ⟨gb400, 1, none⟩ (.int .i64 t398)).setCell ⟨gb400, 2, none⟩ (.int .i64 t399)).heap[gb400]? = some (.cells #[.int .i64 t397, .int .i64 t398, .int .i64 t399] 36 (0, 0))) := ⟨by (with_reducible repeat (first | refine z4q ?_ _ | refine z6q ?_ | refine z5q ?_ _)); refine z14q (cs := #[.int .i64 t397, .int .i64 t398, .int .i64 0]) ?_ 2 _ rfl; (with_reducible repeat (first | refine z4q ?_ _ | refine z6q ?_ | refine z5q ?_ _)); refine z14q (cs := #[.int .i64 t397, .int .i64 0, .int .i64 0]) ?_ 1 _ rfl; (with_reducible repeat (first | refine z4q ?_ _ | refine z6q ?_ | refine z5q ?_ _)); refine z14q (cs := #[.int .i64 0, .int .i64 0, .int .i64 0]) ?_ 0 _ rfl; (with_reducible repeat (first | refine z4q ?_ _ | refine z6q ?_ | refine z5q ?_ _)); exact BK400.out⟩
                have n3_ : Aside0 (Below w.heap.size w (((w149.setCell ⟨gb400, 0, none⟩ (.int .i64 t397)).setCell ⟨gb400, 1, none⟩ (.int .i64 t398)).setCell ⟨gb400, 2, none⟩ (.int .i64 t399))) := ⟨by repeat (first | (with_reducible first | exact HB.out | apply z2q | apply z0q | apply z1q | refine z3q ?_ GE367.out | refine z3q ?_ GE396.out | refine z3q ?_ GE400.out) | exact HB.out)⟩
                (try clear BK367)
                (try clear BK396)
                (try clear BK400)
                (try clear HB)
                generalize (((w149.setCell ⟨gb400, 0, none⟩ (.int .i64 t397)).setCell ⟨gb400, 1, none⟩ (.int .i64 t398)).setCell ⟨gb400, 2, none⟩ (.int .i64 t399)) = w153 at n0_ n1_ n2_ n3_ ⊢
                have BK367 := n0_
                have BK396 := n1_
                have BK400 := n2_
                have HB := n3_
                clear n0_ n1_ n2_ n3_
                have n0_ := Aside0.mk (z6q BK367.out)
                have n1_ := Aside0.mk (z6q BK396.out)
                have n2_ := Aside0.mk (z6q BK400.out)
                have n3_ := Aside0.mk (z1q HB.out)
                clear BK367
                clear BK396
                clear BK400
                clear HB
                have BK367 := n0_
                have BK396 := n1_
                have BK400 := n2_
                have HB := n3_
                clear n0_ n1_ n2_ n3_
                refine start_ (n := 6) (S := fun w' => w'.cell? ⟨gb400, 0, none⟩ = some (.int .i64 t397) ∧ w'.cell? ⟨gb400, 1, none⟩ = some (.int .i64 t398) ∧ w'.cell? ⟨gb400, 2, none⟩ = some (.int .i64 t399) ∧ w'.cell? ⟨gb396, 0, none⟩ = some (.int .i64 t392) ∧ w'.cell? ⟨gb396, 1, none⟩ = some (.int .i64 t393) ∧ w'.cell? ⟨gb396, 2, none⟩ = some (.int .i64 t394)) (ds := []) bt13_11 (by kernel_rfl) rfl rfl ⟨(z7q BK400.out 0).trans rfl, (z7q BK400.out 1).trans rfl, (z7q BK400.out 2).trans rfl, (z7q BK396.out 0).trans rfl, (z7q BK396.out 1).trans rfl, (z7q BK396.out 2).trans rfl⟩ (fun hHeld => ?_)
                generalize w153.drew = w154 at BK367 BK396 BK400 HB hHeld ⊢
                refine pure_ (i := 1) (N := some 145) (v := ?_) (a' := ?_) bt13_12 rfl rfl (by kernel_rfl) (fun _ _ _ h => h) (Or.inl ⟨by rfl, ?_⟩) ?_ ?_
                rotate_left
                ·intro w'
                 go_simp
                 with_reducible rfl
                rotate_left
                ·simp only [Act.put, setIfInBounds_toArray, set_cons_zero, set_cons_succ, i64_w, i32_w]
                 rfl
                refine pure_ (i := 3) (N := some 147) (v := ?_) (a' := ?_) bt13_13 rfl rfl (by kernel_rfl) (fun _ _ _ h => h) (Or.inl ⟨by rfl, ?_⟩) ?_ ?_
                rotate_left
                ·intro w'
                 go_simp
                 with_reducible rfl
                rotate_left
                ·simp only [Act.put, setIfInBounds_toArray, set_cons_zero, set_cons_succ, i64_w, i32_w]
                 rfl
                refine take_ (i := 0) (N := some 144) (v := ?_) (a' := ?_) bt13_14 rfl rfl (by kernel_rfl) (fun _ _ _ h => h) (Or.inl ⟨by rfl, ?_⟩) hHeld ?_ ?_
                rotate_left
                ·rintro w' ⟨s0, s1, s2, s3, s4, s5⟩
                 go_simp
                 with_reducible rfl
                rotate_left
                ·simp only [Act.put, setIfInBounds_toArray, set_cons_zero, set_cons_succ, i64_w, i32_w]
                 rfl
                refine take_ (i := 2) (N := some 146) (v := ?_) (a' := ?_) #[true, true, true, true, false, false] rfl rfl (by kernel_rfl) (fun _ _ _ h => h) (Or.inl ⟨by rfl, ?_⟩) hHeld ?_ ?_
                rotate_left
                ·rintro w' ⟨s0, s1, s2, s3, s4, s5⟩
                 go_simp
                 with_reducible rfl
                rotate_left
                ·simp only [Act.put, setIfInBounds_toArray, set_cons_zero, set_cons_succ, i64_w, i32_w]
                 rfl
                refine one_ (i := 4) (N := some 148) #[true, true, true, true, true, false] rfl rfl (by kernel_rfl) (by decide) (fun K hK => ?_)
                refine goes_ Tryd.func29 (by kernel_rfl) rfl #[.int .i64 t391, .agg #[.int .i64 t392, .int .i64 t393, .int .i64 t394], .int .i64 t395] (by rfl) rfl rfl (by (try simp only [map_toArray, map_cons, map_nil]); first | done | rfl | (simp only [length_drop, length_take]; rfl)) ?_
                with_reducible refine (spec_AddMonths.calls kj104 t391 t392 t393 t394 t395 t401 t402 t403 _ A113.out).mono ?_
                rintro e w155 ⟨rfl, hb⟩
                refine ⟨_, rfl, ?_⟩
                have n0_ := Aside0.mk (z13q (g := gb367) (o := .cells #[.int .i64 t364, .int .i64 t365, .int .i64 t366] 36 (0, 0)) (by (with_reducible repeat (first | refine z4q ?_ _ | refine z6q ?_ | refine z5q ?_ _)); exact BK367.out) hb)
                have n1_ := Aside0.mk (z13q (g := gb396) (o := .cells #[.int .i64 t392, .int .i64 t393, .int .i64 t394] 36 (0, 0)) (by (with_reducible repeat (first | refine z4q ?_ _ | refine z6q ?_ | refine z5q ?_ _)); exact BK396.out) hb)
                have n2_ := Aside0.mk (z13q (g := gb400) (o := .cells #[.int .i64 t397, .int .i64 t398, .int .i64 t399] 36 (0, 0)) (by (with_reducible repeat (first | refine z4q ?_ _ | refine z6q ?_ | refine z5q ?_ _)); exact BK400.out) hb)
                have n3_ := Aside0.mk (z11q (by repeat (first | (with_reducible first | exact HB.out | apply z2q | apply z0q | apply z1q | refine z3q ?_ GE367.out | refine z3q ?_ GE396.out | refine z3q ?_ GE400.out) | exact HB.out)) hb)
                clear BK367
                clear BK396
                clear BK400
                clear HB
                have BK367 := n0_
                have BK396 := n1_
                have BK400 := n2_
                have HB := n3_
                clear n0_ n1_ n2_ n3_
                (try clear hb)
                (try clear hb2)
                (try clear hk)
                (try clear hi)
                refine hK.out _ _ ⟨(z7q BK400.out 0).trans rfl, (z7q BK400.out 1).trans rfl, (z7q BK400.out 2).trans rfl, (z7q BK396.out 0).trans rfl, (z7q BK396.out 1).trans rfl, (z7q BK396.out 2).trans rfl⟩ (fun hHeld => ?_)
                clear hK K
                refine norm_ (a' := ?_) ?_ ?_
                rotate_left
                ·show Act.put _ (some 148) _ = _
                 simp only [Act.put, setIfInBounds_toArray, set_cons_zero, set_cons_succ, i64_w, i32_w]
                 rfl
                refine pure_ (i := 5) (N := some 149) (v := ?_) (a' := ?_) #[true, true, true, true, true, true] rfl rfl (by kernel_rfl) (fun _ _ _ h => h) (Or.inl ⟨by rfl, ?_⟩) ?_ ?_
                rotate_left
                ·intro w'
                 go_simp
                 with_reducible rfl
                rotate_left
                ·simp only [Act.put, setIfInBounds_toArray, set_cons_zero, set_cons_succ, i64_w, i32_w]
                 rfl
                refine done_ (by kernel_rfl) ?_
                have hcz156_0 : w155.cell? ⟨gb400, 0, none⟩ = some (.int .i64 t397) := (z7q BK400.out 0).trans rfl
                have hcz156_1 : w155.cell? ⟨gb400, 1, none⟩ = some (.int .i64 t398) := (z7q BK400.out 1).trans rfl
                have hcz156_2 : w155.cell? ⟨gb400, 2, none⟩ = some (.int .i64 t399) := (z7q BK400.out 2).trans rfl
                have hfz156_0 := z8q BK400.out 0
                have hfz156_1 := z8q BK400.out 1
                have hfz156_2 := z8q BK400.out 2
                try go_wp2_with (first | ((with_reducible refine z9q (f := 28) rfl ?_); refine z17q (some 157) rfl rfl Tryd.func28 (by kernel_rfl) rfl #[.int .i64 t391, .agg #[.int .i64 t397, .int .i64 t398, .int .i64 t399], .int .i64 (wrap64 (-t395))] rfl (by (try simp only [map_toArray, map_cons, map_nil]); first | done | rfl | (simp only [length_drop, length_take]; rfl)) ?_; (with_reducible refine (impl_AddMonths.calls kj104 t391 t397 t398 t399 (wrap64 (-t395)) t404 t405 t406 _ (hT.below (by repeat (first | exact HB.out | exact Below.refl _ _ | apply z2q | apply z0q | apply z1q | refine z3q ?_ GE367.out | refine z3q ?_ GE378.out | refine z3q ?_ GE396.out | refine z3q ?_ GE400.out | refine z3q ?_ GE407.out))) A141.out).mono ?_); rintro e w157 ⟨rfl, hb⟩; refine ⟨_, rfl, ?_⟩; have n0_ := Aside0.mk (z13q (g := gb367) (o := .cells #[.int .i64 t364, .int .i64 t365, .int .i64 t366] 36 (0, 0)) (by (with_reducible repeat (first | refine z4q ?_ _ | refine z6q ?_ | refine z5q ?_ _)); exact BK367.out) hb); have n1_ := Aside0.mk (z13q (g := gb396) (o := .cells #[.int .i64 t392, .int .i64 t393, .int .i64 t394] 36 (0, 0)) (by (with_reducible repeat (first | refine z4q ?_ _ | refine z6q ?_ | refine z5q ?_ _)); exact BK396.out) hb); have n2_ := Aside0.mk (z13q (g := gb400) (o := .cells #[.int .i64 t397, .int .i64 t398, .int .i64 t399] 36 (0, 0)) (by (with_reducible repeat (first | refine z4q ?_ _ | refine z6q ?_ | refine z5q ?_ _)); exact BK400.out) hb); have n3_ := Aside0.mk (z11q (by repeat (first | (with_reducible first | exact HB.out | apply z2q | apply z0q | apply z1q | refine z3q ?_ GE367.out | refine z3q ?_ GE396.out | refine z3q ?_ GE400.out) | exact HB.out)) hb); clear BK367; clear BK396; clear BK400; clear HB; have BK367 := n0_; have BK396 := n1_; have BK400 := n2_; have HB := n3_; clear n0_ n1_ n2_ n3_; (try clear hb); (try clear hb2); (try clear hk); (try clear hi)) | ((with_reducible refine z22q (N := 21) rfl ?_); refine z20q ?hg (N := 21) ?hd (cs := #[.int .i64 0, .int .i64 0, .int .i64 0]) (t := 36) ?hr ?_; (case hd => rfl); (case hg => rfl); (case hr => first | (go_simp; done) | (go_simp; rfl)); intro gb407 hg w158 hbox hb; have n0_ := Aside0.mk (z13q (g := gb367) (o := .cells #[.int .i64 t364, .int .i64 t365, .int .i64 t366] 36 (0, 0)) (by (with_reducible repeat (first | refine z4q ?_ _ | refine z6q ?_ | refine z5q ?_ _)); exact BK367.out) hb); have n1_ := Aside0.mk (z13q (g := gb396) (o := .cells #[.int .i64 t392, .int .i64 t393, .int .i64 t394] 36 (0, 0)) (by (with_reducible repeat (first | refine z4q ?_ _ | refine z6q ?_ | refine z5q ?_ _)); exact BK396.out) hb); have n2_ := Aside0.mk (z13q (g := gb400) (o := .cells #[.int .i64 t397, .int .i64 t398, .int .i64 t399] 36 (0, 0)) (by (with_reducible repeat (first | refine z4q ?_ _ | refine z6q ?_ | refine z5q ?_ _)); exact BK400.out) hb); have n3_ := Aside0.mk (z11q (by repeat (first | (with_reducible first | exact HB.out | apply z2q | apply z0q | apply z1q | refine z3q ?_ GE367.out | refine z3q ?_ GE396.out | refine z3q ?_ GE400.out) | exact HB.out)) hb); have n4_ := Aside0.mk (hbox); have n5_ := Aside0.mk ((by rw [hg]; exact (z12q (by repeat (first | (with_reducible first | exact HB.out | apply z2q | apply z0q | apply z1q | refine z3q ?_ GE367.out | refine z3q ?_ GE396.out | refine z3q ?_ GE400.out) | exact HB.out))) : w.heap.size ≤ gb407)); have n6_ := Aside0.mk ((by rw [hg]; exact (z12q (by repeat (first | (with_reducible first | exact HB.out | apply z2q | apply z0q | apply z1q | refine z3q ?_ GE367.out | refine z3q ?_ GE396.out | refine z3q ?_ GE400.out) | exact HB.out))) : w.heap.size ≤ gb407)); have n7_ := Aside0.mk ((by rw [hg]; exact Nat.ne_of_lt (z21q (g := gb367) (o := .cells #[.int .i64 t364, .int .i64 t365, .int .i64 t366] 36 (0, 0)) (by (with_reducible repeat (first | refine z4q ?_ _ | refine z6q ?_ | refine z5q ?_ _)); exact BK367.out)) : gb367 ≠ gb407)); have n8_ := Aside0.mk ((by rw [hg]; exact Nat.ne_of_gt (z21q (g := gb367) (o := .cells #[.int .i64 t364, .int .i64 t365, .int .i64 t366] 36 (0, 0)) (by (with_reducible repeat (first | refine z4q ?_ _ | refine z6q ?_ | refine z5q ?_ _)); exact BK367.out)) : gb407 ≠ gb367)); have n9_ := Aside0.mk ((by rw [hg]; exact Nat.ne_of_lt (z21q (g := gb396) (o := .cells #[.int .i64 t392, .int .i64 t393, .int .i64 t394] 36 (0, 0)) (by (with_reducible repeat (first | refine z4q ?_ _ | refine z6q ?_ | refine z5q ?_ _)); exact BK396.out)) : gb396 ≠ gb407)); have n10_ := Aside0.mk ((by rw [hg]; exact Nat.ne_of_gt (z21q (g := gb396) (o := .cells #[.int .i64 t392, .int .i64 t393, .int .i64 t394] 36 (0, 0)) (by (with_reducible repeat (first | refine z4q ?_ _ | refine z6q ?_ | refine z5q ?_ _)); exact BK396.out)) : gb407 ≠ gb396)); have n11_ := Aside0.mk ((by rw [hg]; exact Nat.ne_of_lt (z21q (g := gb400) (o := .cells #[.int .i64 t397, .int .i64 t398, .int .i64 t399] 36 (0, 0)) (by (with_reducible repeat (first | refine z4q ?_ _ | refine z6q ?_ | refine z5q ?_ _)); exact BK400.out)) : gb400 ≠ gb407)); have n12_ := Aside0.mk ((by rw [hg]; exact Nat.ne_of_gt (z21q (g := gb400) (o := .cells #[.int .i64 t397, .int .i64 t398, .int .i64 t399] 36 (0, 0)) (by (with_reducible repeat (first | refine z4q ?_ _ | refine z6q ?_ | refine z5q ?_ _)); exact BK400.out)) : gb407 ≠ gb400)); clear BK367; clear BK396; clear BK400; clear HB; have BK367 := n0_; have BK396 := n1_; have BK400 := n2_; have HB := n3_; have BK407 := n4_; have GW407 := n5_; have GE407 := n6_; have NB367_407 := n7_; have NB407_367 := n8_; have NB396_407 := n9_; have NB407_396 := n10_; have NB400_407 := n11_; have NB407_400 := n12_; clear n0_ n1_ n2_ n3_ n4_ n5_ n6_ n7_ n8_ n9_ n10_ n11_ n12_; clear hb hbox hg; have hnb159 := NB407_367.out; have hnc159 := NB367_407.out; have hnb160 := NB407_396.out; have hnc160 := NB396_407.out; have hnb161 := NB407_400.out; have hnc161 := NB400_407.out; have hcz162_0 : w158.cell? ⟨gb407, 0, none⟩ = some (.int .i64 0) := (z7q BK407.out 0).trans rfl; have hcz162_1 : w158.cell? ⟨gb407, 1, none⟩ = some (.int .i64 0) := (z7q BK407.out 1).trans rfl; have hcz162_2 : w158.cell? ⟨gb407, 2, none⟩ = some (.int .i64 0) := (z7q BK407.out 2).trans rfl; have hfz162_0 := z8q BK407.out 0; have hfz162_1 := z8q BK407.out 1; have hfz162_2 := z8q BK407.out 2; have hcz163_0 : w158.cell? ⟨gb396, 0, none⟩ = some (.int .i64 t392) := (z7q BK396.out 0).trans rfl; have hcz163_1 : w158.cell? ⟨gb396, 1, none⟩ = some (.int .i64 t393) := (z7q BK396.out 1).trans rfl; have hcz163_2 : w158.cell? ⟨gb396, 2, none⟩ = some (.int .i64 t394) := (z7q BK396.out 2).trans rfl; have hfz163_0 := z8q BK396.out 0; have hfz163_1 := z8q BK396.out 1; have hfz163_2 := z8q BK396.out 2))
                go_ret
                exact ⟨by first | rfl | (simp [errW_none, errW_some] <;> rfl) | (simp [*, errW_none, errW_some] <;> rfl), by repeat (first | (with_reducible first | exact HB.out | apply z2q | apply z0q | apply z1q | refine z3q ?_ GE367.out | refine z3q ?_ GE396.out | refine z3q ?_ GE400.out | refine z3q ?_ GE407.out) | exact HB.out)⟩
               ·rw [if_neg c143] at H
                have c143b0 : (t405 == t393) = false := beq_eq_false_iff_ne.mpr c143
                have c143b1 : (t405 != t393) = true := bne_iff_ne.mpr c143
                obtain rfl := Option.some.inj H
                try go_wp2_with (first | ((with_reducible refine z9q (f := 27) rfl ?_); refine z17q (some 136) rfl rfl Tryd.func27 (by kernel_rfl) rfl #[.slice A0 l0.length c0] rfl (by (try simp only [map_toArray, map_cons, map_nil]); first | done | rfl | (simp only [length_drop, length_take]; rfl)) ?_; (with_reducible refine (spec_DrawAddMonths.calls _ _ l0 t391 t392 t393 t394 t395 _ ?side1 ?side2 A111.out).mono ?_); (case side1 => repeat (first | exact (Kd.C_below HR0.out HB.out) | (with_reducible refine Kd.C_alloc ?_ _) | (with_reducible refine Kd.C_drewN ?_ _) | (with_reducible refine Kd.C_drew ?_))); (case side2 => exact HC0.out); rintro e w164 ⟨rfl, hb⟩; refine ⟨_, rfl, ?_⟩; have n0_ := Aside0.mk (z13q (g := gb367) (o := .cells #[.int .i64 t364, .int .i64 t365, .int .i64 t366] 36 (0, 0)) (by (with_reducible repeat (first | refine z4q ?_ _ | refine z6q ?_ | refine z5q ?_ _)); exact BK367.out) hb); have n1_ := Aside0.mk (z11q (by repeat (first | (with_reducible first | exact HB.out | apply z2q | apply z0q | apply z1q | refine z3q ?_ GE367.out) | exact HB.out)) hb); clear BK367; clear HB; have BK367 := n0_; have HB := n1_; clear n0_ n1_; (try clear hb); (try clear hb2); (try clear hk); (try clear hi)) | ((with_reducible refine z22q (N := 18) rfl ?_); refine z20q ?hg (N := 18) ?hd (cs := #[.int .i64 0, .int .i64 0, .int .i64 0]) (t := 36) ?hr ?_; (case hd => rfl); (case hg => rfl); (case hr => first | (go_simp; done) | (go_simp; rfl)); intro gb396 hg w165 hbox hb; have n0_ := Aside0.mk (z13q (g := gb367) (o := .cells #[.int .i64 t364, .int .i64 t365, .int .i64 t366] 36 (0, 0)) (by (with_reducible repeat (first | refine z4q ?_ _ | refine z6q ?_ | refine z5q ?_ _)); exact BK367.out) hb); have n1_ := Aside0.mk (z11q (by repeat (first | (with_reducible first | exact HB.out | apply z2q | apply z0q | apply z1q | refine z3q ?_ GE367.out) | exact HB.out)) hb); have n2_ := Aside0.mk (hbox); have n3_ := Aside0.mk ((by rw [hg]; exact (z12q (by repeat (first | (with_reducible first | exact HB.out | apply z2q | apply z0q | apply z1q | refine z3q ?_ GE367.out) | exact HB.out))) : w.heap.size ≤ gb396)); have n4_ := Aside0.mk ((by rw [hg]; exact (z12q (by repeat (first | (with_reducible first | exact HB.out | apply z2q | apply z0q | apply z1q | refine z3q ?_ GE367.out) | exact HB.out))) : w.heap.size ≤ gb396)); have n5_ := Aside0.mk ((by rw [hg]; exact Nat.ne_of_lt (z21q (g := gb367) (o := .cells #[.int .i64 t364, .int .i64 t365, .int .i64 t366] 36 (0, 0)) (by (with_reducible repeat (first | refine z4q ?_ _ | refine z6q ?_ | refine z5q ?_ _)); exact BK367.out)) : gb367 ≠ gb396)); have n6_ := Aside0.mk ((by rw [hg]; exact Nat.ne_of_gt (z21q (g := gb367) (o := .cells #[.int .i64 t364, .int .i64 t365, .int .i64 t366] 36 (0, 0)) (by (with_reducible repeat (first | refine z4q ?_ _ | refine z6q ?_ | refine z5q ?_ _)); exact BK367.out)) : gb396 ≠ gb367)); clear BK367; clear HB; have BK367 := n0_; have HB := n1_; have BK396 := n2_; have GW396 := n3_; have GE396 := n4_; have NB367_396 := n5_; have NB396_367 := n6_; clear n0_ n1_ n2_ n3_ n4_ n5_ n6_; clear hb hbox hg; have hnb166 := NB396_367.out; have hnc166 := NB367_396.out; have hcz167_0 : w165.cell? ⟨gb396, 0, none⟩ = some (.int .i64 0) := (z7q BK396.out 0).trans rfl; have hcz167_1 : w165.cell? ⟨gb396, 1, none⟩ = some (.int .i64 0) := (z7q BK396.out 1).trans rfl; have hcz167_2 : w165.cell? ⟨gb396, 2, none⟩ = some (.int .i64 0) := (z7q BK396.out 2).trans rfl; have hfz167_0 := z8q BK396.out 0; have hfz167_1 := z8q BK396.out 1; have hfz167_2 := z8q BK396.out 2) | ((with_reducible refine z9q (f := 28) rfl ?_); refine z17q (some 143) rfl rfl Tryd.func28 (by kernel_rfl) rfl #[.int .i64 t391, .agg #[.int .i64 t392, .int .i64 t393, .int .i64 t394], .int .i64 t395] rfl (by (try simp only [map_toArray, map_cons, map_nil]); first | done | rfl | (simp only [length_drop, length_take]; rfl)) ?_; (with_reducible refine (impl_AddMonths.calls kj104 t391 t392 t393 t394 t395 t397 t398 t399 _ (hT.below (by repeat (first | exact HB.out | exact Below.refl _ _ | apply z2q | apply z0q | apply z1q | refine z3q ?_ GE367.out | refine z3q ?_ GE378.out | refine z3q ?_ GE396.out | refine z3q ?_ GE400.out | refine z3q ?_ GE407.out))) A112.out).mono ?_); rintro e w168 ⟨rfl, hb⟩; refine ⟨_, rfl, ?_⟩; have n0_ := Aside0.mk (z13q (g := gb367) (o := .cells #[.int .i64 t364, .int .i64 t365, .int .i64 t366] 36 (0, 0)) (by (with_reducible repeat (first | refine z4q ?_ _ | refine z6q ?_ | refine z5q ?_ _)); refine z18q ?_ NB367_396.out _; (with_reducible repeat (first | refine z4q ?_ _ | refine z6q ?_ | refine z5q ?_ _)); refine z18q ?_ NB367_396.out _; (with_reducible repeat (first | refine z4q ?_ _ | refine z6q ?_ | refine z5q ?_ _)); refine z18q ?_ NB367_396.out _; (with_reducible repeat (first | refine z4q ?_ _ | refine z6q ?_ | refine z5q ?_ _)); exact BK367.out) hb); have n1_ := Aside0.mk (z13q (g := gb396) (o := .cells #[.int .i64 t392, .int .i64 t393, .int .i64 t394] 36 (0, 0)) (by (with_reducible repeat (first | refine z4q ?_ _ | refine z6q ?_ | refine z5q ?_ _)); refine z14q (cs := #[.int .i64 t392, .int .i64 t393, .int .i64 0]) ?_ 2 _ rfl; (with_reducible repeat (first | refine z4q ?_ _ | refine z6q ?_ | refine z5q ?_ _)); refine z14q (cs := #[.int .i64 t392, .int .i64 0, .int .i64 0]) ?_ 1 _ rfl; (with_reducible repeat (first | refine z4q ?_ _ | refine z6q ?_ | refine z5q ?_ _)); refine z14q (cs := #[.int .i64 0, .int .i64 0, .int .i64 0]) ?_ 0 _ rfl; (with_reducible repeat (first | refine z4q ?_ _ | refine z6q ?_ | refine z5q ?_ _)); exact BK396.out) hb); have n2_ := Aside0.mk (z11q (by repeat (first | (with_reducible first | exact HB.out | apply z2q | apply z0q | apply z1q | refine z3q ?_ GE367.out | refine z3q ?_ GE396.out) | exact HB.out)) hb); clear BK367; clear BK396; clear HB; have BK367 := n0_; have BK396 := n1_; have HB := n2_; clear n0_ n1_ n2_; (try clear hb); (try clear hb2); (try clear hk); (try clear hi)) | ((with_reducible refine z22q (N := 20) rfl ?_); refine z20q ?hg (N := 20) ?hd (cs := #[.int .i64 0, .int .i64 0, .int .i64 0]) (t := 36) ?hr ?_; (case hd => rfl); (case hg => rfl); (case hr => first | (go_simp; done) | (go_simp; rfl)); intro gb400 hg w169 hbox hb; have n0_ := Aside0.mk (z13q (g := gb367) (o := .cells #[.int .i64 t364, .int .i64 t365, .int .i64 t366] 36 (0, 0)) (by (with_reducible repeat (first | refine z4q ?_ _ | refine z6q ?_ | refine z5q ?_ _)); exact BK367.out) hb); have n1_ := Aside0.mk (z13q (g := gb396) (o := .cells #[.int .i64 t392, .int .i64 t393, .int .i64 t394] 36 (0, 0)) (by (with_reducible repeat (first | refine z4q ?_ _ | refine z6q ?_ | refine z5q ?_ _)); exact BK396.out) hb); have n2_ := Aside0.mk (z11q (by repeat (first | (with_reducible first | exact HB.out | apply z2q | apply z0q | apply z1q | refine z3q ?_ GE367.out | refine z3q ?_ GE396.out) | exact HB.out)) hb); have n3_ := Aside0.mk (hbox); have n4_ := Aside0.mk ((by rw [hg]; exact (z12q (by repeat (first | (with_reducible first | exact HB.out | apply z2q | apply z0q | apply z1q | refine z3q ?_ GE367.out | refine z3q ?_ GE396.out) | exact HB.out))) : w.heap.size ≤ gb400)); have n5_ := Aside0.mk ((by rw [hg]; exact (z12q (by repeat (first | (with_reducible first | exact HB.out | apply z2q | apply z0q | apply z1q | refine z3q ?_ GE367.out | refine z3q ?_ GE396.out) | exact HB.out))) : w.heap.size ≤ gb400)); have n6_ := Aside0.mk ((by rw [hg]; exact Nat.ne_of_lt (z21q (g := gb367) (o := .cells #[.int .i64 t364, .int .i64 t365, .int .i64 t366] 36 (0, 0)) (by (with_reducible repeat (first | refine z4q ?_ _ | refine z6q ?_ | refine z5q ?_ _)); exact BK367.out)) : gb367 ≠ gb400)); have n7_ := Aside0.mk ((by rw [hg]; exact Nat.ne_of_gt (z21q (g := gb367) (o := .cells #[.int .i64 t364, .int .i64 t365, .int .i64 t366] 36 (0, 0)) (by (with_reducible repeat (first | refine z4q ?_ _ | refine z6q ?_ | refine z5q ?_ _)); exact BK367.out)) : gb400 ≠ gb367)); have n8_ := Aside0.mk ((by rw [hg]; exact Nat.ne_of_lt (z21q (g := gb396) (o := .cells #[.int .i64 t392, .int .i64 t393, .int .i64 t394] 36 (0, 0)) (by (with_reducible repeat (first | refine z4q ?_ _ | refine z6q ?_ | refine z5q ?_ _)); exact BK396.out)) : gb396 ≠ gb400)); have n9_ := Aside0.mk ((by rw [hg]; exact Nat.ne_of_gt (z21q (g := gb396) (o := .cells #[.int .i64 t392, .int .i64 t393, .int .i64 t394] 36 (0, 0)) (by (with_reducible repeat (first | refine z4q ?_ _ | refine z6q ?_ | refine z5q ?_ _)); exact BK396.out)) : gb400 ≠ gb396)); clear BK367; clear BK396; clear HB; have BK367 := n0_; have BK396 := n1_; have HB := n2_; have BK400 := n3_; have GW400 := n4_; have GE400 := n5_; have NB367_400 := n6_; have NB400_367 := n7_; have NB396_400 := n8_; have NB400_396 := n9_; clear n0_ n1_ n2_ n3_ n4_ n5_ n6_ n7_ n8_ n9_; clear hb hbox hg; have hnb170 := NB400_367.out; have hnc170 := NB367_400.out; have hnb171 := NB400_396.out; have hnc171 := NB396_400.out; have hcz172_0 : w169.cell? ⟨gb400, 0, none⟩ = some (.int .i64 0) := (z7q BK400.out 0).trans rfl; have hcz172_1 : w169.cell? ⟨gb400, 1, none⟩ = some (.int .i64 0) := (z7q BK400.out 1).trans rfl; have hcz172_2 : w169.cell? ⟨gb400, 2, none⟩ = some (.int .i64 0) := (z7q BK400.out 2).trans rfl; have hfz172_0 := z8q BK400.out 0; have hfz172_1 := z8q BK400.out 1; have hfz172_2 := z8q BK400.out 2))
                have n0_ : Aside0 ((((w169.setCell ⟨gb400, 0, none⟩ (.int .i64 t397)).setCell ⟨gb400, 1, none⟩ (.int .i64 t398)).setCell ⟨gb400, 2, none⟩ (.int .i64 t399)).heap[gb367]? = some (.cells #[.int .i64 t364, .int .i64 t365, .int .i64 t366] 36 (0, 0))) := ⟨by (with_reducible repeat (first | refine z4q ?_ _ | refine z6q ?_ | refine z5q ?_ _)); refine z18q ?_ NB367_400.out _; (with_reducible repeat (first | refine z4q ?_ _ | refine z6q ?_ | refine z5q ?_ _)); refine z18q ?_ NB367_400.out _; (with_reducible repeat (first | refine z4q ?_ _ | refine z6q ?_ | refine z5q ?_ _)); refine z18q ?_ NB367_400.out _; (with_reducible repeat (first | refine z4q ?_ _ | refine z6q ?_ | refine z5q ?_ _)); exact BK367.out⟩
                have n1_ : Aside0 ((((w169.setCell ⟨gb400, 0, none⟩ (.int .i64 t397)).setCell ⟨gb400, 1, none⟩ (.int .i64 t398)).setCell ⟨gb400, 2, none⟩ (.int .i64 t399)).heap[gb396]? = some (.cells #[.int .i64 t392, .int .i64 t393, .int .i64 t394] 36 (0, 0))) := ⟨by (with_reducible repeat (first | refine z4q ?_ _ | refine z6q ?_ | refine z5q ?_ _)); refine z18q ?_ NB396_400.out _; (with_reducible repeat (first | refine z4q ?_ _ | refine z6q ?_ | refine z5q ?_ _)); refine z18q ?_ NB396_400.out _; (with_reducible repeat (first | refine z4q ?_ _ | refine z6q ?_ | refine z5q ?_ _)); refine z18q ?_ NB396_400.out _; (with_reducible repeat (first | refine z4q ?_ _ | refine z6q ?_ | refine z5q ?_ _)); exact BK396.out⟩
                have n2_ : Aside0 ((((w169.setCell ⟨gb400, 0, none⟩ (.int .i64 t397)).setCell ⟨gb400, 1, none⟩ (.int .i64 t398)).setCell ⟨gb400, 2, none⟩ (.int .i64 t399)).heap[gb400]? = some (.cells #[.int .i64 t397, .int .i64 t398, .int .i64 t399] 36 (0, 0))) := ⟨by (with_reducible repeat (first | refine z4q ?_ _ | refine z6q ?_ | refine z5q ?_ _)); refine z14q (cs := #[.int .i64 t397, .int .i64 t398, .int .i64 0]) ?_ 2 _ rfl; (with_reducible repeat (first | refine z4q ?_ _ | refine z6q ?_ | refine z5q ?_ _)); refine z14q (cs := #[.int .i64 t397, .int .i64 0, .int .i64 0]) ?_ 1 _ rfl; (with_reducible repeat (first | refine z4q ?_ _ | refine z6q ?_ | refine z5q ?_ _)); refine z14q (cs := #[.int .i64 0, .int .i64 0, .int .i64 0]) ?_ 0 _ rfl; (with_reducible repeat (first | refine z4q ?_ _ | refine z6q ?_ | refine z5q ?_ _)); exact BK400.out⟩
                have n3_ : Aside0 (Below w.heap.size w (((w169.setCell ⟨gb400, 0, none⟩ (.int .i64 t397)).setCell ⟨gb400, 1, none⟩ (.int .i64 t398)).setCell ⟨gb400, 2, none⟩ (.int .i64 t399))) := ⟨by repeat (first | (with_reducible first | exact HB.out | apply z2q | apply z0q | apply z1q | refine z3q ?_ GE367.out | refine z3q ?_ GE396.out | refine z3q ?_ GE400.out) | exact HB.out)⟩
                (try clear BK367)
                (try clear BK396)
                (try clear BK400)
                (try clear HB)
                generalize (((w169.setCell ⟨gb400, 0, none⟩ (.int .i64 t397)).setCell ⟨gb400, 1, none⟩ (.int .i64 t398)).setCell ⟨gb400, 2, none⟩ (.int .i64 t399)) = w173 at n0_ n1_ n2_ n3_ ⊢
                have BK367 := n0_
                have BK396 := n1_
                have BK400 := n2_
                have HB := n3_
                clear n0_ n1_ n2_ n3_
                have n0_ := Aside0.mk (z6q BK367.out)
                have n1_ := Aside0.mk (z6q BK396.out)
                have n2_ := Aside0.mk (z6q BK400.out)
                have n3_ := Aside0.mk (z1q HB.out)
                clear BK367
                clear BK396
                clear BK400
                clear HB
                have BK367 := n0_
                have BK396 := n1_
                have BK400 := n2_
                have HB := n3_
                clear n0_ n1_ n2_ n3_
                refine start_ (n := 6) (S := fun w' => w'.cell? ⟨gb400, 0, none⟩ = some (.int .i64 t397) ∧ w'.cell? ⟨gb400, 1, none⟩ = some (.int .i64 t398) ∧ w'.cell? ⟨gb400, 2, none⟩ = some (.int .i64 t399) ∧ w'.cell? ⟨gb396, 0, none⟩ = some (.int .i64 t392) ∧ w'.cell? ⟨gb396, 1, none⟩ = some (.int .i64 t393) ∧ w'.cell? ⟨gb396, 2, none⟩ = some (.int .i64 t394)) (ds := []) bt13_11 (by kernel_rfl) rfl rfl ⟨(z7q BK400.out 0).trans rfl, (z7q BK400.out 1).trans rfl, (z7q BK400.out 2).trans rfl, (z7q BK396.out 0).trans rfl, (z7q BK396.out 1).trans rfl, (z7q BK396.out 2).trans rfl⟩ (fun hHeld => ?_)
                generalize w173.drew = w174 at BK367 BK396 BK400 HB hHeld ⊢
                refine pure_ (i := 1) (N := some 145) (v := ?_) (a' := ?_) bt13_12 rfl rfl (by kernel_rfl) (fun _ _ _ h => h) (Or.inl ⟨by rfl, ?_⟩) ?_ ?_
                rotate_left
                ·intro w'
                 go_simp
                 with_reducible rfl
                rotate_left
                ·simp only [Act.put, setIfInBounds_toArray, set_cons_zero, set_cons_succ, i64_w, i32_w]
                 rfl
                refine pure_ (i := 3) (N := some 147) (v := ?_) (a' := ?_) bt13_13 rfl rfl (by kernel_rfl) (fun _ _ _ h => h) (Or.inl ⟨by rfl, ?_⟩) ?_ ?_
                rotate_left
                ·intro w'
                 go_simp
                 with_reducible rfl
                rotate_left
                ·simp only [Act.put, setIfInBounds_toArray, set_cons_zero, set_cons_succ, i64_w, i32_w]
                 rfl
                refine take_ (i := 0) (N := some 144) (v := ?_) (a' := ?_) bt13_14 rfl rfl (by kernel_rfl) (fun _ _ _ h => h) (Or.inl ⟨by rfl, ?_⟩) hHeld ?_ ?_
                rotate_left
                ·rintro w' ⟨s0, s1, s2, s3, s4, s5⟩
                 go_simp
                 with_reducible rfl
                rotate_left
                ·simp only [Act.put, setIfInBounds_toArray, set_cons_zero, set_cons_succ, i64_w, i32_w]
                 rfl
                refine take_ (i := 2) (N := some 146) (v := ?_) (a' := ?_) #[true, true, true, true, false, false] rfl rfl (by kernel_rfl) (fun _ _ _ h => h) (Or.inl ⟨by rfl, ?_⟩) hHeld ?_ ?_
                rotate_left
                ·rintro w' ⟨s0, s1, s2, s3, s4, s5⟩
                 go_simp
                 with_reducible rfl
                rotate_left
                ·simp only [Act.put, setIfInBounds_toArray, set_cons_zero, set_cons_succ, i64_w, i32_w]
                 rfl
                refine one_ (i := 4) (N := some 148) #[true, true, true, true, true, false] rfl rfl (by kernel_rfl) (by decide) (fun K hK => ?_)
                refine goes_ Tryd.func29 (by kernel_rfl) rfl #[.int .i64 t391, .agg #[.int .i64 t392, .int .i64 t393, .int .i64 t394], .int .i64 t395] (by rfl) rfl rfl (by (try simp only [map_toArray, map_cons, map_nil]); first | done | rfl | (simp only [length_drop, length_take]; rfl)) ?_
                with_reducible refine (spec_AddMonths.calls kj104 t391 t392 t393 t394 t395 t401 t402 t403 _ A113.out).mono ?_
                rintro e w175 ⟨rfl, hb⟩
                refine ⟨_, rfl, ?_⟩
                have n0_ := Aside0.mk (z13q (g := gb367) (o := .cells #[.int .i64 t364, .int .i64 t365, .int .i64 t366] 36 (0, 0)) (by (with_reducible repeat (first | refine z4q ?_ _ | refine z6q ?_ | refine z5q ?_ _)); exact BK367.out) hb)
                have n1_ := Aside0.mk (z13q (g := gb396) (o := .cells #[.int .i64 t392, .int .i64 t393, .int .i64 t394] 36 (0, 0)) (by (with_reducible repeat (first | refine z4q ?_ _ | refine z6q ?_ | refine z5q ?_ _)); exact BK396.out) hb)
                have n2_ := Aside0.mk (z13q (g := gb400) (o := .cells #[.int .i64 t397, .int .i64 t398, .int .i64 t399] 36 (0, 0)) (by (with_reducible repeat (first | refine z4q ?_ _ | refine z6q ?_ | refine z5q ?_ _)); exact BK400.out) hb)
                have n3_ := Aside0.mk (z11q (by repeat (first | (with_reducible first | exact HB.out | apply z2q | apply z0q | apply z1q | refine z3q ?_ GE367.out | refine z3q ?_ GE396.out | refine z3q ?_ GE400.out) | exact HB.out)) hb)
                clear BK367
                clear BK396
                clear BK400
                clear HB
                have BK367 := n0_
                have BK396 := n1_
                have BK400 := n2_
                have HB := n3_
                clear n0_ n1_ n2_ n3_
                (try clear hb)
                (try clear hb2)
                (try clear hk)
                (try clear hi)
                refine hK.out _ _ ⟨(z7q BK400.out 0).trans rfl, (z7q BK400.out 1).trans rfl, (z7q BK400.out 2).trans rfl, (z7q BK396.out 0).trans rfl, (z7q BK396.out 1).trans rfl, (z7q BK396.out 2).trans rfl⟩ (fun hHeld => ?_)
                clear hK K
                refine norm_ (a' := ?_) ?_ ?_
                rotate_left
                ·show Act.put _ (some 148) _ = _
                 simp only [Act.put, setIfInBounds_toArray, set_cons_zero, set_cons_succ, i64_w, i32_w]
                 rfl
                refine pure_ (i := 5) (N := some 149) (v := ?_) (a' := ?_) #[true, true, true, true, true, true] rfl rfl (by kernel_rfl) (fun _ _ _ h => h) (Or.inl ⟨by rfl, ?_⟩) ?_ ?_
                rotate_left
                ·intro w'
                 go_simp
                 with_reducible rfl
                rotate_left
                ·simp only [Act.put, setIfInBounds_toArray, set_cons_zero, set_cons_succ, i64_w, i32_w]
                 rfl
                refine done_ (by kernel_rfl) ?_
                have hcz176_0 : w175.cell? ⟨gb400, 0, none⟩ = some (.int .i64 t397) := (z7q BK400.out 0).trans rfl
                have hcz176_1 : w175.cell? ⟨gb400, 1, none⟩ = some (.int .i64 t398) := (z7q BK400.out 1).trans rfl
                have hcz176_2 : w175.cell? ⟨gb400, 2, none⟩ = some (.int .i64 t399) := (z7q BK400.out 2).trans rfl
                have hfz176_0 := z8q BK400.out 0
                have hfz176_1 := z8q BK400.out 1
                have hfz176_2 := z8q BK400.out 2
                try go_wp2_with (first | ((with_reducible refine z9q (f := 28) rfl ?_); refine z17q (some 157) rfl rfl Tryd.func28 (by kernel_rfl) rfl #[.int .i64 t391, .agg #[.int .i64 t397, .int .i64 t398, .int .i64 t399], .int .i64 (wrap64 (-t395))] rfl (by (try simp only [map_toArray, map_cons, map_nil]); first | done | rfl | (simp only [length_drop, length_take]; rfl)) ?_; (with_reducible refine (impl_AddMonths.calls kj104 t391 t397 t398 t399 (wrap64 (-t395)) t404 t405 t406 _ (hT.below (by repeat (first | exact HB.out | exact Below.refl _ _ | apply z2q | apply z0q | apply z1q | refine z3q ?_ GE367.out | refine z3q ?_ GE378.out | refine z3q ?_ GE396.out | refine z3q ?_ GE400.out | refine z3q ?_ GE407.out))) A141.out).mono ?_); rintro e w177 ⟨rfl, hb⟩; refine ⟨_, rfl, ?_⟩; have n0_ := Aside0.mk (z13q (g := gb367) (o := .cells #[.int .i64 t364, .int .i64 t365, .int .i64 t366] 36 (0, 0)) (by (with_reducible repeat (first | refine z4q ?_ _ | refine z6q ?_ | refine z5q ?_ _)); exact BK367.out) hb); have n1_ := Aside0.mk (z13q (g := gb396) (o := .cells #[.int .i64 t392, .int .i64 t393, .int .i64 t394] 36 (0, 0)) (by (with_reducible repeat (first | refine z4q ?_ _ | refine z6q ?_ | refine z5q ?_ _)); exact BK396.out) hb); have n2_ := Aside0.mk (z13q (g := gb400) (o := .cells #[.int .i64 t397, .int .i64 t398, .int .i64 t399] 36 (0, 0)) (by (with_reducible repeat (first | refine z4q ?_ _ | refine z6q ?_ | refine z5q ?_ _)); exact BK400.out) hb); have n3_ := Aside0.mk (z11q (by repeat (first | (with_reducible first | exact HB.out | apply z2q | apply z0q | apply z1q | refine z3q ?_ GE367.out | refine z3q ?_ GE396.out | refine z3q ?_ GE400.out) | exact HB.out)) hb); clear BK367; clear BK396; clear BK400; clear HB; have BK367 := n0_; have BK396 := n1_; have BK400 := n2_; have HB := n3_; clear n0_ n1_ n2_ n3_; (try clear hb); (try clear hb2); (try clear hk); (try clear hi)) | ((with_reducible refine z22q (N := 21) rfl ?_); refine z20q ?hg (N := 21) ?hd (cs := #[.int .i64 0, .int .i64 0, .int .i64 0]) (t := 36) ?hr ?_; (case hd => rfl); (case hg => rfl); (case hr => first | (go_simp; done) | (go_simp; rfl)); intro gb407 hg w178 hbox hb; have n0_ := Aside0.mk (z13q (g := gb367) (o := .cells #[.int .i64 t364, .int .i64 t365, .int .i64 t366] 36 (0, 0)) (by (with_reducible repeat (first | refine z4q ?_ _ | refine z6q ?_ | refine z5q ?_ _)); exact BK367.out) hb); have n1_ := Aside0.mk (z13q (g := gb396) (o := .cells #[.int .i64 t392, .int .i64 t393, .int .i64 t394] 36 (0, 0)) (by (with_reducible repeat (first | refine z4q ?_ _ | refine z6q ?_ | refine z5q ?_ _)); exact BK396.out) hb); have n2_ := Aside0.mk (z13q (g := gb400) (o := .cells #[.int .i64 t397, .int .i64 t398, .int .i64 t399] 36 (0, 0)) (by (with_reducible repeat (first | refine z4q ?_ _ | refine z6q ?_ | refine z5q ?_ _)); exact BK400.out) hb); have n3_ := Aside0.mk (z11q (by repeat (first | (with_reducible first | exact HB.out | apply z2q | apply z0q | apply z1q | refine z3q ?_ GE367.out | refine z3q ?_ GE396.out | refine z3q ?_ GE400.out) | exact HB.out)) hb); have n4_ := Aside0.mk (hbox); have n5_ := Aside0.mk ((by rw [hg]; exact (z12q (by repeat (first | (with_reducible first | exact HB.out | apply z2q | apply z0q | apply z1q | refine z3q ?_ GE367.out | refine z3q ?_ GE396.out | refine z3q ?_ GE400.out) | exact HB.out))) : w.heap.size ≤ gb407)); have n6_ := Aside0.mk ((by rw [hg]; exact (z12q (by repeat (first | (with_reducible first | exact HB.out | apply z2q | apply z0q | apply z1q | refine z3q ?_ GE367.out | refine z3q ?_ GE396.out | refine z3q ?_ GE400.out) | exact HB.out))) : w.heap.size ≤ gb407)); have n7_ := Aside0.mk ((by rw [hg]; exact Nat.ne_of_lt (z21q (g := gb367) (o := .cells #[.int .i64 t364, .int .i64 t365, .int .i64 t366] 36 (0, 0)) (by (with_reducible repeat (first | refine z4q ?_ _ | refine z6q ?_ | refine z5q ?_ _)); exact BK367.out)) : gb367 ≠ gb407)); have n8_ := Aside0.mk ((by rw [hg]; exact Nat.ne_of_gt (z21q (g := gb367) (o := .cells #[.int .i64 t364, .int .i64 t365, .int .i64 t366] 36 (0, 0)) (by (with_reducible repeat (first | refine z4q ?_ _ | refine z6q ?_ | refine z5q ?_ _)); exact BK367.out)) : gb407 ≠ gb367)); have n9_ := Aside0.mk ((by rw [hg]; exact Nat.ne_of_lt (z21q (g := gb396) (o := .cells #[.int .i64 t392, .int .i64 t393, .int .i64 t394] 36 (0, 0)) (by (with_reducible repeat (first | refine z4q ?_ _ | refine z6q ?_ | refine z5q ?_ _)); exact BK396.out)) : gb396 ≠ gb407)); have n10_ := Aside0.mk ((by rw [hg]; exact Nat.ne_of_gt (z21q (g := gb396) (o := .cells #[.int .i64 t392, .int .i64 t393, .int .i64 t394] 36 (0, 0)) (by (with_reducible repeat (first | refine z4q ?_ _ | refine z6q ?_ | refine z5q ?_ _)); exact BK396.out)) : gb407 ≠ gb396)); have n11_ := Aside0.mk ((by rw [hg]; exact Nat.ne_of_lt (z21q (g := gb400) (o := .cells #[.int .i64 t397, .int .i64 t398, .int .i64 t399] 36 (0, 0)) (by (with_reducible repeat (first | refine z4q ?_ _ | refine z6q ?_ | refine z5q ?_ _)); exact BK400.out)) : gb400 ≠ gb407)); have n12_ := Aside0.mk ((by rw [hg]; exact Nat.ne_of_gt (z21q (g := gb400) (o := .cells #[.int .i64 t397, .int .i64 t398, .int .i64 t399] 36 (0, 0)) (by (with_reducible repeat (first | refine z4q ?_ _ | refine z6q ?_ | refine z5q ?_ _)); exact BK400.out)) : gb407 ≠ gb400)); clear BK367; clear BK396; clear BK400; clear HB; have BK367 := n0_; have BK396 := n1_; have BK400 := n2_; have HB := n3_; have BK407 := n4_; have GW407 := n5_; have GE407 := n6_; have NB367_407 := n7_; have NB407_367 := n8_; have NB396_407 := n9_; have NB407_396 := n10_; have NB400_407 := n11_; have NB407_400 := n12_; clear n0_ n1_ n2_ n3_ n4_ n5_ n6_ n7_ n8_ n9_ n10_ n11_ n12_; clear hb hbox hg; have hnb179 := NB407_367.out; have hnc179 := NB367_407.out; have hnb180 := NB407_396.out; have hnc180 := NB396_407.out; have hnb181 := NB407_400.out; have hnc181 := NB400_407.out; have hcz182_0 : w178.cell? ⟨gb407, 0, none⟩ = some (.int .i64 0) := (z7q BK407.out 0).trans rfl; have hcz182_1 : w178.cell? ⟨gb407, 1, none⟩ = some (.int .i64 0) := (z7q BK407.out 1).trans rfl; have hcz182_2 : w178.cell? ⟨gb407, 2, none⟩ = some (.int .i64 0) := (z7q BK407.out 2).trans rfl; have hfz182_0 := z8q BK407.out 0; have hfz182_1 := z8q BK407.out 1; have hfz182_2 := z8q BK407.out 2; have hcz183_0 : w178.cell? ⟨gb396, 0, none⟩ = some (.int .i64 t392) := (z7q BK396.out 0).trans rfl; have hcz183_1 : w178.cell? ⟨gb396, 1, none⟩ = some (.int .i64 t393) := (z7q BK396.out 1).trans rfl; have hcz183_2 : w178.cell? ⟨gb396, 2, none⟩ = some (.int .i64 t394) := (z7q BK396.out 2).trans rfl; have hfz183_0 := z8q BK396.out 0; have hfz183_1 := z8q BK396.out 1; have hfz183_2 := z8q BK396.out 2))
                go_ret
                exact ⟨by first | rfl | (simp [errW_none, errW_some] <;> rfl) | (simp [*, errW_none, errW_some] <;> rfl), by repeat (first | (with_reducible first | exact HB.out | apply z2q | apply z0q | apply z1q | refine z3q ?_ GE367.out | refine z3q ?_ GE396.out | refine z3q ?_ GE400.out | refine z3q ?_ GE407.out) | exact HB.out)⟩
              ·rw [if_neg c142] at H
               have c142b0 : (t404 == t392) = false := beq_eq_false_iff_ne.mpr c142
               have c142b1 : (t404 != t392) = true := bne_iff_ne.mpr c142
               obtain rfl := Option.some.inj H
               try go_wp2_with (first | ((with_reducible refine z9q (f := 27) rfl ?_); refine z17q (some 136) rfl rfl Tryd.func27 (by kernel_rfl) rfl #[.slice A0 l0.length c0] rfl (by (try simp only [map_toArray, map_cons, map_nil]); first | done | rfl | (simp only [length_drop, length_take]; rfl)) ?_; (with_reducible refine (spec_DrawAddMonths.calls _ _ l0 t391 t392 t393 t394 t395 _ ?side1 ?side2 A111.out).mono ?_); (case side1 => repeat (first | exact (Kd.C_below HR0.out HB.out) | (with_reducible refine Kd.C_alloc ?_ _) | (with_reducible refine Kd.C_drewN ?_ _) | (with_reducible refine Kd.C_drew ?_))); (case side2 => exact HC0.out); rintro e w184 ⟨rfl, hb⟩; refine ⟨_, rfl, ?_⟩; have n0_ := Aside0.mk (z13q (g := gb367) (o := .cells #[.int .i64 t364, .int .i64 t365, .int .i64 t366] 36 (0, 0)) (by (with_reducible repeat (first | refine z4q ?_ _ | refine z6q ?_ | refine z5q ?_ _)); exact BK367.out) hb); have n1_ := Aside0.mk (z11q (by repeat (first | (with_reducible first | exact HB.out | apply z2q | apply z0q | apply z1q | refine z3q ?_ GE367.out) | exact HB.out)) hb); clear BK367; clear HB; have BK367 := n0_; have HB := n1_; clear n0_ n1_; (try clear hb); (try clear hb2); (try clear hk); (try clear hi)) | ((with_reducible refine z22q (N := 18) rfl ?_); refine z20q ?hg (N := 18) ?hd (cs := #[.int .i64 0, .int .i64 0, .int .i64 0]) (t := 36) ?hr ?_; (case hd => rfl); (case hg => rfl); (case hr => first | (go_simp; done) | (go_simp; rfl)); intro gb396 hg w185 hbox hb; have n0_ := Aside0.mk (z13q (g := gb367) (o := .cells #[.int .i64 t364, .int .i64 t365, .int .i64 t366] 36 (0, 0)) (by (with_reducible repeat (first | refine z4q ?_ _ | refine z6q ?_ | refine z5q ?_ _)); exact BK367.out) hb); have n1_ := Aside0.mk (z11q (by repeat (first | (with_reducible first | exact HB.out | apply z2q | apply z0q | apply z1q | refine z3q ?_ GE367.out) | exact HB.out)) hb); have n2_ := Aside0.mk (hbox); have n3_ := Aside0.mk ((by rw [hg]; exact (z12q (by repeat (first | (with_reducible first | exact HB.out | apply z2q | apply z0q | apply z1q | refine z3q ?_ GE367.out) | exact HB.out))) : w.heap.size ≤ gb396)); have n4_ := Aside0.mk ((by rw [hg]; exact (z12q (by repeat (first | (with_reducible first | exact HB.out | apply z2q | apply z0q | apply z1q | refine z3q ?_ GE367.out) | exact HB.out))) : w.heap.size ≤ gb396)); have n5_ := Aside0.mk ((by rw [hg]; exact Nat.ne_of_lt (z21q (g := gb367) (o := .cells #[.int .i64 t364, .int .i64 t365, .int .i64 t366] 36 (0, 0)) (by (with_reducible repeat (first | refine z4q ?_ _ | refine z6q ?_ | refine z5q ?_ _)); exact BK367.out)) : gb367 ≠ gb396)); have n6_ := Aside0.mk ((by rw [hg]; exact Nat.ne_of_gt (z21q (g := gb367) (o := .cells #[.int .i64 t364, .int .i64 t365, .int .i64 t366] 36 (0, 0)) (by (with_reducible repeat (first | refine z4q ?_ _ | refine z6q ?_ | refine z5q ?_ _)); exact BK367.out)) : gb396 ≠ gb367)); clear BK367; clear HB; have BK367 := n0_; have HB := n1_; have BK396 := n2_; have GW396 := n3_; have GE396 := n4_; have NB367_396 := n5_; have NB396_367 := n6_; clear n0_ n1_ n2_ n3_ n4_ n5_ n6_; clear hb hbox hg; have hnb186 := NB396_367.out; have hnc186 := NB367_396.out; have hcz187_0 : w185.cell? ⟨gb396, 0, none⟩ = some (.int .i64 0) := (z7q BK396.out 0).trans rfl; have hcz187_1 : w185.cell? ⟨gb396, 1, none⟩ = some (.int .i64 0) := (z7q BK396.out 1).trans rfl; have hcz187_2 : w185.cell? ⟨gb396, 2, none⟩ = some (.int .i64 0) := (z7q BK396.out 2).trans rfl; have hfz187_0 := z8q BK396.out 0; have hfz187_1 := z8q BK396.out 1; have hfz187_2 := z8q BK396.out 2) | ((with_reducible refine z9q (f := 28) rfl ?_); refine z17q (some 143) rfl rfl Tryd.func28 (by kernel_rfl) rfl #[.int .i64 t391, .agg #[.int .i64 t392, .int .i64 t393, .int .i64 t394], .int .i64 t395] rfl (by (try simp only [map_toArray, map_cons, map_nil]); first | done | rfl | (simp only [length_drop, length_take]; rfl)) ?_; (with_reducible refine (impl_AddMonths.calls kj104 t391 t392 t393 t394 t395 t397 t398 t399 _ (hT.below (by repeat (first | exact HB.out | exact Below.refl _ _ | apply z2q | apply z0q | apply z1q | refine z3q ?_ GE367.out | refine z3q ?_ GE378.out | refine z3q ?_ GE396.out | refine z3q ?_ GE400.out | refine z3q ?_ GE407.out))) A112.out).mono ?_); rintro e w188 ⟨rfl, hb⟩; refine ⟨_, rfl, ?_⟩; have n0_ := Aside0.mk (z13q (g := gb367) (o := .cells #[.int .i64 t364, .int .i64 t365, .int .i64 t366] 36 (0, 0)) (by (with_reducible repeat (first | refine z4q ?_ _ | refine z6q ?_ | refine z5q ?_ _)); refine z18q ?_ NB367_396.out _; (with_reducible repeat (first | refine z4q ?_ _ | refine z6q ?_ | refine z5q ?_ _)); refine z18q ?_ NB367_396.out _; (with_reducible repeat (first | refine z4q ?_ _ | refine z6q ?_ | refine z5q ?_ _)); refine z18q ?_ NB367_396.out _; (with_reducible repeat (first | refine z4q ?_ _ | refine z6q ?_ | refine z5q ?_ _)); exact BK367.out) hb); have n1_ := Aside0.mk (z13q (g := gb396) (o := .cells #[.int .i64 t392, .int .i64 t393, .int .i64 t394] 36 (0, 0)) (by (with_reducible repeat (first | refine z4q ?_ _ | refine z6q ?_ | refine z5q ?_ _)); refine z14q (cs := #[.int .i64 t392, .int .i64 t393, .int .i64 0]) ?_ 2 _ rfl; (with_reducible repeat (first | refine z4q ?_ _ | refine z6q ?_ | refine z5q ?_ _)); refine z14q (cs := #[.int .i64 t392, .int .i64 0, .int .i64 0]) ?_ 1 _ rfl; (with_reducible repeat (first | refine z4q ?_ _ | refine z6q ?_ | refine z5q ?_ _)); refine z14q (cs := #[.int .i64 0, .int .i64 0, .int .i64 0]) ?_ 0 _ rfl; (with_reducible repeat (first | refine z4q ?_ _ | refine z6q ?_ | refine z5q ?_ _)); exact BK396.out) hb); have n2_ := Aside0.mk (z11q (by repeat (first | (with_reducible first | exact HB.out | apply z2q | apply z0q | apply z1q | refine z3q ?_ GE367.out | refine z3q ?_ GE396.out) | exact HB.out)) hb); clear BK367; clear BK396; clear HB; have BK367 := n0_; have BK396 := n1_; have HB := n2_; clear n0_ n1_ n2_; (try clear hb); (try clear hb2); (try clear hk); (try clear hi)) | ((with_reducible refine z22q (N := 20) rfl ?_); refine z20q ?hg (N := 20) ?hd (cs := #[.int .i64 0, .int .i64 0, .int .i64 0]) (t := 36) ?hr ?_; (case hd => rfl); (case hg => rfl); (case hr => first | (go_simp; done) | (go_simp; rfl)); intro gb400 hg w189 hbox hb; have n0_ := Aside0.mk (z13q (g := gb367) (o := .cells #[.int .i64 t364, .int .i64 t365, .int .i64 t366] 36 (0, 0)) (by (with_reducible repeat (first | refine z4q ?_ _ | refine z6q ?_ | refine z5q ?_ _)); exact BK367.out) hb); have n1_ := Aside0.mk (z13q (g := gb396) (o := .cells #[.int .i64 t392, .int .i64 t393, .int .i64 t394] 36 (0, 0)) (by (with_reducible repeat (first | refine z4q ?_ _ | refine z6q ?_ | refine z5q ?_ _)); exact BK396.out) hb); have n2_ := Aside0.mk (z11q (by repeat (first | (with_reducible first | exact HB.out | apply z2q | apply z0q | apply z1q | refine z3q ?_ GE367.out | refine z3q ?_ GE396.out) | exact HB.out)) hb); have n3_ := Aside0.mk (hbox); have n4_ := Aside0.mk ((by rw [hg]; exact (z12q (by repeat (first | (with_reducible first | exact HB.out | apply z2q | apply z0q | apply z1q | refine z3q ?_ GE367.out | refine z3q ?_ GE396.out) | exact HB.out))) : w.heap.size ≤ gb400)); have n5_ := Aside0.mk ((by rw [hg]; exact (z12q (by repeat (first | (with_reducible first | exact HB.out | apply z2q | apply z0q | apply z1q | refine z3q ?_ GE367.out | refine z3q ?_ GE396.out) | exact HB.out))) : w.heap.size ≤ gb400)); have n6_ := Aside0.mk ((by rw [hg]; exact Nat.ne_of_lt (z21q (g := gb367) (o := .cells #[.int .i64 t364, .int .i64 t365, .int .i64 t366] 36 (0, 0)) (by (with_reducible repeat (first | refine z4q ?_ _ | refine z6q ?_ | refine z5q ?_ _)); exact BK367.out)) : gb367 ≠ gb400)); have n7_ := Aside0.mk ((by rw [hg]; exact Nat.ne_of_gt (z21q (g := gb367) (o := .cells #[.int .i64 t364, .int .i64 t365, .int .i64 t366] 36 (0, 0)) (by (with_reducible repeat (first | refine z4q ?_ _ | refine z6q ?_ | refine z5q ?_ _)); exact BK367.out)) : gb400 ≠ gb367)); have n8_ := Aside0.mk ((by rw [hg]; exact Nat.ne_of_lt (z21q (g := gb396) (o := .cells #[.int .i64 t392, .int .i64 t393, .int .i64 t394] 36 (0, 0)) (by (with_reducible repeat (first | refine z4q ?_ _ | refine z6q ?_ | refine z5q ?_ _)); exact BK396.out)) : gb396 ≠ gb400)); have n9_ := Aside0.mk ((by rw [hg]; exact Nat.ne_of_gt (z21q (g := gb396) (o := .cells #[.int .i64 t392, .int .i64 t393, .int .i64 t394] 36 (0, 0)) (by (with_reducible repeat (first | refine z4q ?_ _ | refine z6q ?_ | refine z5q ?_ _)); exact BK396.out)) : gb400 ≠ gb396)); clear BK367; clear BK396; clear HB; have BK367 := n0_; have BK396 := n1_; have HB := n2_; have BK400 := n3_; have GW400 := n4_; have GE400 := n5_; have NB367_400 := n6_; have NB400_367 := n7_; have NB396_400 := n8_; have NB400_396 := n9_; clear n0_ n1_ n2_ n3_ n4_ n5_ n6_ n7_ n8_ n9_; clear hb hbox hg; have hnb190 := NB400_367.out; have hnc190 := NB367_400.out; have hnb191 := NB400_396.out; have hnc191 := NB396_400.out; have hcz192_0 : w189.cell? ⟨gb400, 0, none⟩ = some (.int .i64 0) := (z7q BK400.out 0).trans rfl; have hcz192_1 : w189.cell? ⟨gb400, 1, none⟩ = some (.int .i64 0) := (z7q BK400.out 1).trans rfl; have hcz192_2 : w189.cell? ⟨gb400, 2, none⟩ = some (.int .i64 0) := (z7q BK400.out 2).trans rfl; have hfz192_0 := z8q BK400.out 0; have hfz192_1 := z8q BK400.out 1; have hfz192_2 := z8q BK400.out 2))
               have n0_ : Aside0 ((((w189.setCell ⟨gb400, 0, none⟩ (.int .i64 t397)).setCell ⟨gb400, 1, none⟩ (.int .i64 t398)).setCell ⟨gb400, 2, none⟩ (.int .i64 t399)).heap[gb367]? = some (.cells #[.int .i64 t364, .int .i64 t365, .int .i64 t366] 36 (0, 0))) := ⟨by (with_reducible repeat (first | refine z4q ?_ _ | refine z6q ?_ | refine z5q ?_ _)); refine z18q ?_ NB367_400.out _; (with_reducible repeat (first | refine z4q ?_ _ | refine z6q ?_ | refine z5q ?_ _)); refine z18q ?_ NB367_400.out _; (with_reducible repeat (first | refine z4q ?_ _ | refine z6q ?_ | refine z5q ?_ _)); refine z18q ?_ NB367_400.out _; (with_reducible repeat (first | refine z4q ?_ _ | refine z6q ?_ | refine z5q ?_ _)); exact BK367.out⟩
               have n1_ : Aside0 ((((w189.setCell ⟨gb400, 0, none⟩ (.int .i64 t397)).setCell ⟨gb400, 1, none⟩ (.int .i64 t398)).setCell ⟨gb400, 2, none⟩ (.int .i64 t399)).heap[gb396]? = some (.cells #[.int .i64 t392, .int .i64 t393, .int .i64 t394] 36 (0, 0))) := ⟨by (with_reducible repeat (first | refine z4q ?_ _ | refine z6q ?_ | refine z5q ?_ _)); refine z18q ?_ NB396_400.out _; (with_reducible repeat (first | refine z4q ?_ _ | refine z6q ?_ | refine z5q ?_ _)); refine z18q ?_ NB396_400.out _; (with_reducible repeat (first | refine z4q ?_ _ | refine z6q ?_ | refine z5q ?_ _)); refine z18q ?_ NB396_400.out _; (with_reducible repeat (first | refine z4q ?_ _ | refine z6q ?_ | refine z5q ?_ _)); exact BK396.out⟩
               have n2_ : Aside0 ((((w189.setCell ⟨gb400, 0, none⟩ (.int .i64 t397)).setCell ⟨gb400, 1, none⟩ (.int .i64 t398)).setCell ⟨gb400, 2, none⟩ (.int .i64 t399)).heap[gb400]? = some (.cells #[.int .i64 t397, .int .i64 t398, .int .i64 t399] 36 (0, 0))) := ⟨by (with_reducible repeat (first | refine z4q ?_ _ | refine z6q ?_ | refine z5q ?_ _)); refine z14q (cs := #[.int .i64 t397, .int .i64 t398, .int .i64 0]) ?_ 2 _ rfl; (with_reducible repeat (first | refine z4q ?_ _ | refine z6q ?_ | refine z5q ?_ _)); refine z14q (cs := #[.int .i64 t397, .int .i64 0, .int .i64 0]) ?_ 1 _ rfl; (with_reducible repeat (first | refine z4q ?_ _ | refine z6q ?_ | refine z5q ?_ _)); refine z14q (cs := #[.int .i64 0, .int .i64 0, .int .i64 0]) ?_ 0 _ rfl; (with_reducible repeat (first | refine z4q ?_ _ | refine z6q ?_ | refine z5q ?_ _)); exact BK400.out⟩
               have n3_ : Aside0 (Below w.heap.size w (((w189.setCell ⟨gb400, 0, none⟩ (.int .i64 t397)).setCell ⟨gb400, 1, none⟩ (.int .i64 t398)).setCell ⟨gb400, 2, none⟩ (.int .i64 t399))) := ⟨by repeat (first | (with_reducible first | exact HB.out | apply z2q | apply z0q | apply z1q | refine z3q ?_ GE367.out | refine z3q ?_ GE396.out | refine z3q ?_ GE400.out) | exact HB.out)⟩
               (try clear BK367)
               (try clear BK396)
               (try clear BK400)
               (try clear HB)
               generalize (((w189.setCell ⟨gb400, 0, none⟩ (.int .i64 t397)).setCell ⟨gb400, 1, none⟩ (.int .i64 t398)).setCell ⟨gb400, 2, none⟩ (.int .i64 t399)) = w193 at n0_ n1_ n2_ n3_ ⊢
               have BK367 := n0_
               have BK396 := n1_
               have BK400 := n2_
               have HB := n3_
               clear n0_ n1_ n2_ n3_
               have n0_ := Aside0.mk (z6q BK367.out)
               have n1_ := Aside0.mk (z6q BK396.out)
               have n2_ := Aside0.mk (z6q BK400.out)
               have n3_ := Aside0.mk (z1q HB.out)
               clear BK367
               clear BK396
               clear BK400
               clear HB
               have BK367 := n0_
               have BK396 := n1_
               have BK400 := n2_
               have HB := n3_
               clear n0_ n1_ n2_ n3_
               refine start_ (n := 6) (S := fun w' => w'.cell? ⟨gb400, 0, none⟩ = some (.int .i64 t397) ∧ w'.cell? ⟨gb400, 1, none⟩ = some (.int .i64 t398) ∧ w'.cell? ⟨gb400, 2, none⟩ = some (.int .i64 t399) ∧ w'.cell? ⟨gb396, 0, none⟩ = some (.int .i64 t392) ∧ w'.cell? ⟨gb396, 1, none⟩ = some (.int .i64 t393) ∧ w'.cell? ⟨gb396, 2, none⟩ = some (.int .i64 t394)) (ds := []) bt13_11 (by kernel_rfl) rfl rfl ⟨(z7q BK400.out 0).trans rfl, (z7q BK400.out 1).trans rfl, (z7q BK400.out 2).trans rfl, (z7q BK396.out 0).trans rfl, (z7q BK396.out 1).trans rfl, (z7q BK396.out 2).trans rfl⟩ (fun hHeld => ?_)
               generalize w193.drew = w194 at BK367 BK396 BK400 HB hHeld ⊢
               refine pure_ (i := 1) (N := some 145) (v := ?_) (a' := ?_) bt13_12 rfl rfl (by kernel_rfl) (fun _ _ _ h => h) (Or.inl ⟨by rfl, ?_⟩) ?_ ?_
               rotate_left
               ·intro w'
                go_simp
                with_reducible rfl
               rotate_left
               ·simp only [Act.put, setIfInBounds_toArray, set_cons_zero, set_cons_succ, i64_w, i32_w]
                rfl
               refine pure_ (i := 3) (N := some 147) (v := ?_) (a' := ?_) bt13_13 rfl rfl (by kernel_rfl) (fun _ _ _ h => h) (Or.inl ⟨by rfl, ?_⟩) ?_ ?_
               rotate_left
               ·intro w'
                go_simp
                with_reducible rfl
               rotate_left
               ·simp only [Act.put, setIfInBounds_toArray, set_cons_zero, set_cons_succ, i64_w, i32_w]
                rfl
               refine take_ (i := 0) (N := some 144) (v := ?_) (a' := ?_) bt13_14 rfl rfl (by kernel_rfl) (fun _ _ _ h => h) (Or.inl ⟨by rfl, ?_⟩) hHeld ?_ ?_
               rotate_left
               ·rintro w' ⟨s0, s1, s2, s3, s4, s5⟩
                go_simp
                with_reducible rfl
               rotate_left
               ·simp only [Act.put, setIfInBounds_toArray, set_cons_zero, set_cons_succ, i64_w, i32_w]
                rfl
               refine take_ (i := 2) (N := some 146) (v := ?_) (a' := ?_) #[true, true, true, true, false, false] rfl rfl (by kernel_rfl) (fun _ _ _ h => h) (Or.inl ⟨by rfl, ?_⟩) hHeld ?_ ?_
               rotate_left
               ·rintro w' ⟨s0, s1, s2, s3, s4, s5⟩
                go_simp
                with_reducible rfl
               rotate_left
               ·simp only [Act.put, setIfInBounds_toArray, set_cons_zero, set_cons_succ, i64_w, i32_w]
                rfl
               refine one_ (i := 4) (N := some 148) #[true, true, true, true, true, false] rfl rfl (by kernel_rfl) (by decide) (fun K hK => ?_)
               refine goes_ Tryd.func29 (by kernel_rfl) rfl #[.int .i64 t391, .agg #[.int .i64 t392, .int .i64 t393, .int .i64 t394], .int .i64 t395] (by rfl) rfl rfl (by (try simp only [map_toArray, map_cons, map_nil]); first | done | rfl | (simp only [length_drop, length_take]; rfl)) ?_
               with_reducible refine (spec_AddMonths.calls kj104 t391 t392 t393 t394 t395 t401 t402 t403 _ A113.out).mono ?_
               rintro e w195 ⟨rfl, hb⟩
               refine ⟨_, rfl, ?_⟩
               have n0_ := Aside0.mk (z13q (g := gb367) (o := .cells #[.int .i64 t364, .int .i64 t365, .int .i64 t366] 36 (0, 0)) (by (with_reducible repeat (first | refine z4q ?_ _ | refine z6q ?_ | refine z5q ?_ _)); exact BK367.out) hb)
               have n1_ := Aside0.mk (z13q (g := gb396) (o := .cells #[.int .i64 t392, .int .i64 t393, .int .i64 t394] 36 (0, 0)) (by (with_reducible repeat (first | refine z4q ?_ _ | refine z6q ?_ | refine z5q ?_ _)); exact BK396.out) hb)
               have n2_ := Aside0.mk (z13q (g := gb400) (o := .cells #[.int .i64 t397, .int .i64 t398, .int .i64 t399] 36 (0, 0)) (by (with_reducible repeat (first | refine z4q ?_ _ | refine z6q ?_ | refine z5q ?_ _)); exact BK400.out) hb)
               have n3_ := Aside0.mk (z11q (by repeat (first | (with_reducible first | exact HB.out | apply z2q | apply z0q | apply z1q | refine z3q ?_ GE367.out | refine z3q ?_ GE396.out | refine z3q ?_ GE400.out) | exact HB.out)) hb)
               clear BK367
               clear BK396
               clear BK400
               clear HB
               have BK367 := n0_
               have BK396 := n1_
               have BK400 := n2_
               have HB := n3_
               clear n0_ n1_ n2_ n3_
               (try clear hb)
               (try clear hb2)
               (try clear hk)
               (try clear hi)
               refine hK.out _ _ ⟨(z7q BK400.out 0).trans rfl, (z7q BK400.out 1).trans rfl, (z7q BK400.out 2).trans rfl, (z7q BK396.out 0).trans rfl, (z7q BK396.out 1).trans rfl, (z7q BK396.out 2).trans rfl⟩ (fun hHeld => ?_)
               clear hK K
               refine norm_ (a' := ?_) ?_ ?_
               rotate_left
               ·show Act.put _ (some 148) _ = _
                simp only [Act.put, setIfInBounds_toArray, set_cons_zero, set_cons_succ, i64_w, i32_w]
                rfl
               refine pure_ (i := 5) (N := some 149) (v := ?_) (a' := ?_) #[true, true, true, true, true, true] rfl rfl (by kernel_rfl) (fun _ _ _ h => h) (Or.inl ⟨by rfl, ?_⟩) ?_ ?_
               rotate_left
               ·intro w'
                go_simp
                with_reducible rfl
               rotate_left
               ·simp only [Act.put, setIfInBounds_toArray, set_cons_zero, set_cons_succ, i64_w, i32_w]
                rfl
               refine done_ (by kernel_rfl) ?_
               have hcz196_0 : w195.cell? ⟨gb400, 0, none⟩ = some (.int .i64 t397) := (z7q BK400.out 0).trans rfl
               have hcz196_1 : w195.cell? ⟨gb400, 1, none⟩ = some (.int .i64 t398) := (z7q BK400.out 1).trans rfl
               have hcz196_2 : w195.cell? ⟨gb400, 2, none⟩ = some (.int .i64 t399) := (z7q BK400.out 2).trans rfl
               have hfz196_0 := z8q BK400.out 0
               have hfz196_1 := z8q BK400.out 1
               have hfz196_2 := z8q BK400.out 2
               try go_wp2_with (first | ((with_reducible refine z9q (f := 28) rfl ?_); refine z17q (some 157) rfl rfl Tryd.func28 (by kernel_rfl) rfl #[.int .i64 t391, .agg #[.int .i64 t397, .int .i64 t398, .int .i64 t399], .int .i64 (wrap64 (-t395))] rfl (by (try simp only [map_toArray, map_cons, map_nil]); first | done | rfl | (simp only [length_drop, length_take]; rfl)) ?_; (with_reducible refine (impl_AddMonths.calls kj104 t391 t397 t398 t399 (wrap64 (-t395)) t404 t405 t406 _ (hT.below (by repeat (first | exact HB.out | exact Below.refl _ _ | apply z2q | apply z0q | apply z1q | refine z3q ?_ GE367.out | refine z3q ?_ GE378.out | refine z3q ?_ GE396.out | refine z3q ?_ GE400.out | refine z3q ?_ GE407.out))) A141.out).mono ?_); rintro e w197 ⟨rfl, hb⟩; refine ⟨_, rfl, ?_⟩; have n0_ := Aside0.mk (z13q (g := gb367) (o := .cells #[.int .i64 t364, .int .i64 t365, .int .i64 t366] 36 (0, 0)) (by (with_reducible repeat (first | refine z4q ?_ _ | refine z6q ?_ | refine z5q ?_ _)); exact BK367.out) hb); have n1_ := Aside0.mk (z13q (g := gb396) (o := .cells #[.int .i64 t392, .int .i64 t393, .int .i64 t394] 36 (0, 0)) (by (with_reducible repeat (first | refine z4q ?_ _ | refine z6q ?_ | refine z5q ?_ _)); exact BK396.out) hb); have n2_ := Aside0.mk (z13q (g := gb400) (o := .cells #[.int .i64 t397, .int .i64 t398, .int .i64 t399] 36 (0, 0)) (by (with_reducible repeat (first | refine z4q ?_ _ | refine z6q ?_ | refine z5q ?_ _)); exact BK400.out) hb); have n3_ := Aside0.mk (z11q (by repeat (first | (with_reducible first | exact HB.out | apply z2q | apply z0q | apply z1q | refine z3q ?_ GE367.out | refine z3q ?_ GE396.out | refine z3q ?_ GE400.out) | exact HB.out)) hb); clear BK367; clear BK396; clear BK400; clear HB; have BK367 := n0_; have BK396 := n1_; have BK400 := n2_; have HB := n3_; clear n0_ n1_ n2_ n3_; (try clear hb); (try clear hb2); (try clear hk); (try clear hi)) | ((with_reducible refine z22q (N := 21) rfl ?_); refine z20q ?hg (N := 21) ?hd (cs := #[.int .i64 0, .int .i64 0, .int .i64 0]) (t := 36) ?hr ?_; (case hd => rfl); (case hg => rfl); (case hr => first | (go_simp; done) | (go_simp; rfl)); intro gb407 hg w198 hbox hb; have n0_ := Aside0.mk (z13q (g := gb367) (o := .cells #[.int .i64 t364, .int .i64 t365, .int .i64 t366] 36 (0, 0)) (by (with_reducible repeat (first | refine z4q ?_ _ | refine z6q ?_ | refine z5q ?_ _)); exact BK367.out) hb); have n1_ := Aside0.mk (z13q (g := gb396) (o := .cells #[.int .i64 t392, .int .i64 t393, .int .i64 t394] 36 (0, 0)) (by (with_reducible repeat (first | refine z4q ?_ _ | refine z6q ?_ | refine z5q ?_ _)); exact BK396.out) hb); have n2_ := Aside0.mk (z13q (g := gb400) (o := .cells #[.int .i64 t397, .int .i64 t398, .int .i64 t399] 36 (0, 0)) (by (with_reducible repeat (first | refine z4q ?_ _ | refine z6q ?_ | refine z5q ?_ _)); exact BK400.out) hb); have n3_ := Aside0.mk (z11q (by repeat (first | (with_reducible first | exact HB.out | apply z2q | apply z0q | apply z1q | refine z3q ?_ GE367.out | refine z3q ?_ GE396.out | refine z3q ?_ GE400.out) | exact HB.out)) hb); have n4_ := Aside0.mk (hbox); have n5_ := Aside0.mk ((by rw [hg]; exact (z12q (by repeat (first | (with_reducible first | exact HB.out | apply z2q | apply z0q | apply z1q | refine z3q ?_ GE367.out | refine z3q ?_ GE396.out | refine z3q ?_ GE400.out) | exact HB.out))) : w.heap.size ≤ gb407)); have n6_ := Aside0.mk ((by rw [hg]; exact (z12q (by repeat (first | (with_reducible first | exact HB.out | apply z2q | apply z0q | apply z1q | refine z3q ?_ GE367.out | refine z3q ?_ GE396.out | refine z3q ?_ GE400.out) | exact HB.out))) : w.heap.size ≤ gb407)); have n7_ := Aside0.mk ((by rw [hg]; exact Nat.ne_of_lt (z21q (g := gb367) (o := .cells #[.int .i64 t364, .int .i64 t365, .int .i64 t366] 36 (0, 0)) (by (with_reducible repeat (first | refine z4q ?_ _ | refine z6q ?_ | refine z5q ?_ _)); exact BK367.out)) : gb367 ≠ gb407)); have n8_ := Aside0.mk ((by rw [hg]; exact Nat.ne_of_gt (z21q (g := gb367) (o := .cells #[.int .i64 t364, .int .i64 t365, .int .i64 t366] 36 (0, 0)) (by (with_reducible repeat (first | refine z4q ?_ _ | refine z6q ?_ | refine z5q ?_ _)); exact BK367.out)) : gb407 ≠ gb367)); have n9_ := Aside0.mk ((by rw [hg]; exact Nat.ne_of_lt (z21q (g := gb396) (o := .cells #[.int .i64 t392, .int .i64 t393, .int .i64 t394] 36 (0, 0)) (by (with_reducible repeat (first | refine z4q ?_ _ | refine z6q ?_ | refine z5q ?_ _)); exact BK396.out)) : gb396 ≠ gb407)); have n10_ := Aside0.mk ((by rw [hg]; exact Nat.ne_of_gt (z21q (g := gb396) (o := .cells #[.int .i64 t392, .int .i64 t393, .int .i64 t394] 36 (0, 0)) (by (with_reducible repeat (first | refine z4q ?_ _ | refine z6q ?_ | refine z5q ?_ _)); exact BK396.out)) : gb407 ≠ gb396)); have n11_ := Aside0.mk ((by rw [hg]; exact Nat.ne_of_lt (z21q (g := gb400) (o := .cells #[.int .i64 t397, .int .i64 t398, .int .i64 t399] 36 (0, 0)) (by (with_reducible repeat (first | refine z4q ?_ _ | refine z6q ?_ | refine z5q ?_ _)); exact BK400.out)) : gb400 ≠ gb407)); have n12_ := Aside0.mk ((by rw [hg]; exact Nat.ne_of_gt (z21q (g := gb400) (o := .cells #[.int .i64 t397, .int .i64 t398, .int .i64 t399] 36 (0, 0)) (by (with_reducible repeat (first | refine z4q ?_ _ | refine z6q ?_ | refine z5q ?_ _)); exact BK400.out)) : gb407 ≠ gb400)); clear BK367; clear BK396; clear BK400; clear HB; have BK367 := n0_; have BK396 := n1_; have BK400 := n2_; have HB := n3_; have BK407 := n4_; have GW407 := n5_; have GE407 := n6_; have NB367_407 := n7_; have NB407_367 := n8_; have NB396_407 := n9_; have NB407_396 := n10_; have NB400_407 := n11_; have NB407_400 := n12_; clear n0_ n1_ n2_ n3_ n4_ n5_ n6_ n7_ n8_ n9_ n10_ n11_ n12_; clear hb hbox hg; have hnb199 := NB407_367.out; have hnc199 := NB367_407.out; have hnb200 := NB407_396.out; have hnc200 := NB396_407.out; have hnb201 := NB407_400.out; have hnc201 := NB400_407.out; have hcz202_0 : w198.cell? ⟨gb407, 0, none⟩ = some (.int .i64 0) := (z7q BK407.out 0).trans rfl; have hcz202_1 : w198.cell? ⟨gb407, 1, none⟩ = some (.int .i64 0) := (z7q BK407.out 1).trans rfl; have hcz202_2 : w198.cell? ⟨gb407, 2, none⟩ = some (.int .i64 0) := (z7q BK407.out 2).trans rfl; have hfz202_0 := z8q BK407.out 0; have hfz202_1 := z8q BK407.out 1; have hfz202_2 := z8q BK407.out 2; have hcz203_0 : w198.cell? ⟨gb396, 0, none⟩ = some (.int .i64 t392) := (z7q BK396.out 0).trans rfl; have hcz203_1 : w198.cell? ⟨gb396, 1, none⟩ = some (.int .i64 t393) := (z7q BK396.out 1).trans rfl; have hcz203_2 : w198.cell? ⟨gb396, 2, none⟩ = some (.int .i64 t394) := (z7q BK396.out 2).trans rfl; have hfz203_0 := z8q BK396.out 0; have hfz203_1 := z8q BK396.out 1; have hfz203_2 := z8q BK396.out 2))
               go_ret
               exact ⟨by first | rfl | (simp [errW_none, errW_some] <;> rfl) | (simp [*, errW_none, errW_some] <;> rfl), by repeat (first | (with_reducible first | exact HB.out | apply z2q | apply z0q | apply z1q | refine z3q ?_ GE367.out | refine z3q ?_ GE396.out | refine z3q ?_ GE400.out | refine z3q ?_ GE407.out) | exact HB.out)⟩

end Go.Proofs.YtffamggcjijobaaDoor.PFnDays
