/- Functions of the program as Lean functions, and proofs that the Go code comes to their answers: for the law FnDays; made out of the print by a program of mine (compact.py). No conditions but each theorem's own. -/
import Derived.Test.YtffamggcjijobaaDoorMFnDaysa0
import Derived.Test.YtffamggcjijobaaDoorMFnDaysa1
import Derived.Test.YtffamggcjijobaaDoorMFnDaysa2
import Derived.Test.YtffamggcjijobaaDoorMFnDaysa4
import Derived.Test.YtffamggcjijobaaDoorMFnDaysa5
import Derived.Test.YtffamggcjijobaaDoorMFnDaysa6
import Derived.Test.YtffamggcjijobaaDoorMFnDaysa7
import Derived.Test.YtffamggcjijobaaDoorMFnDaysa10
import Derived.Test.YtffamggcjijobaaDoorMFnDaysa11
namespace Go.Proofs.YtffamggcjijobaaDoor.PFnDays
open List (map_toArray map_cons map_nil length_drop length_take set_cons_zero set_cons_succ setIfInBounds_toArray)
open Go.RowKit Go.Proofs.YtffamggcjijobaaDoorW.PrintWords Go.Proofs.YtffamggcjijobaaDoorW.PrintLast Go.Proofs.YtffamggcjijobaaDoorW.PrintMore
attribute [local go_sem] max2_int min2_int max_two min_two max_three min_three max_four min_four   -- for this text's walks alone
set_option linter.unusedVariables false
set_option linter.unusedSimpArgs false

attribute [local go_sem high] eqA36
set_option maxHeartbeats 8000000 in
set_option maxRecDepth 100000 in
theorem spec_AddMonths.calls (k : Nat) (a0 : Int) (a1_0 : Int) (a1_1 : Int) (a1_2 : Int) (a2 : Int) (r1 : Int) (r2 : Int) (r3 : Int) (w : World) (h : spec_AddMonths.f k a0 a1_0 a1_1 a1_2 a2 = some (r1, r2, r3)) :
  Calls Tryd.prog 29 #[.int .i64 a0, .agg #[.int .i64 a1_0, .int .i64 a1_1, .int .i64 a1_2], .int .i64 a2] w fun e w' => e = .returned (.agg #[.int .i64 r1, .int .i64 r2, .int .i64 r3]) ∧ Below w.heap.size w w' := by
 have H : ((spec_l2DayOf.f k a0 a1_0 a1_1 a1_2).bind fun bt355 => (if bt355.2 = true then (if a2 < (-100000) then (spec_AddMonths.j0 k a0 a2 true a1_0 a1_1 a1_2) else (spec_AddMonths.j0 k a0 a2 (decide (a2 > 100000)) a1_0 a1_1 a1_2)) else (spec_AddMonths.j0 k a0 a2 true a1_0 a1_1 a1_2))) = some (r1, r2, r3) := h
 replace H := Option.bind_eq_some_iff.mp H
 obtain ⟨⟨t355, t356⟩, A40, H⟩ := H
 replace H : (if t356 = true then (if a2 < (-100000) then (spec_AddMonths.j0 k a0 a2 true a1_0 a1_1 a1_2) else (spec_AddMonths.j0 k a0 a2 (decide (a2 > 100000)) a1_0 a1_1 a1_2)) else (spec_AddMonths.j0 k a0 a2 true a1_0 a1_1 a1_2)) = some (r1, r2, r3) := H
 have A4 := Aside0.mk A40
 clear A40
 exact spec_AddMonths.calls_p1 k a0 a1_0 a1_1 a1_2 a2 r1 r2 r3 w t355 t356 A4 H

/-! ### laws_FnDays: function 5 -/

mutual
def laws_FnDays.j0 : Nat → List Int → Int → Int → Bool → Int → Int → Int → Option (Bool)
 | 0, _, _, _, _, _, _, _ => none
 | k + 1, x0, x3, x4, x58, x368000, x368001, x368002 => if x58 = true then (some false) else (if x4 < 1000000 then ((impl_DateOf.f k x3 (wrap64 (x4 + 1))).bind fun bt375 => ((impl_MonthDays.f x3 x368000 x368001).bind fun t379 => (if ((x368002 == t379) != (bt375.2.2 == 1)) = true then (some false) else (if x368002 = t379 then ((impl_Weekday.f (wrap64 (x4 + 1))).bind fun t380 => ((impl_Weekday.f x4).bind fun t381 => (if t380 = (Int.tmod (wrap64 (t381 + 1)) 7) then (laws_FnDays.j1 k x0 x3 x4 x368000 x368001 x368002) else (some false)))) else (if bt375.2.2 = (wrap64 (x368002 + 1)) then ((impl_Weekday.f (wrap64 (x4 + 1))).bind fun t382 => ((impl_Weekday.f x4).bind fun t383 => (if t382 = (Int.tmod (wrap64 (t383 + 1)) 7) then (laws_FnDays.j1 k x0 x3 x4 x368000 x368001 x368002) else (some false)))) else (some false)))))) else (laws_FnDays.j1 k x0 x3 x4 x368000 x368001 x368002))
def laws_FnDays.j1 : Nat → List Int → Int → Int → Int → Int → Int → Option (Bool)
 | 0, _, _, _, _, _, _ => none
 | k + 1, x0, x3, x4, x368000, x368001, x368002 => (impl_WeekOf.f k x4).bind fun bt384 => ((spec_WeekOf.f k x4).bind fun bt386 => (if bt384.1 = bt386.1 then (laws_FnDays.j2 k x0 x3 x4 (bt384.2 != bt386.2) x368000 x368001 x368002) else (laws_FnDays.j2 k x0 x3 x4 true x368000 x368001 x368002)))
def laws_FnDays.j2 : Nat → List Int → Int → Int → Bool → Int → Int → Int → Option (Bool)
 | 0, _, _, _, _, _, _, _ => none
 | k + 1, x0, x3, x4, x118, x368000, x368001, x368002 => if x118 = true then (some false) else ((impl_DateText.f k x368000 x368001 x368002).bind fun t388 => ((impl_ReadDate.f k x3 t388).bind fun bt389 => (if bt389.2 = true then (laws_FnDays.j3 k x0 (bt389.1 != x4)) else (laws_FnDays.j3 k x0 true))))
def laws_FnDays.j3 : Nat → List Int → Bool → Option (Bool)
 | 0, _, _ => none
 | k + 1, x0, x133 => if x133 = true then (some false) else ((spec_DrawAddMonths.f x0).bind fun bt391 => ((impl_AddMonths.f k bt391.1 bt391.2.1 bt391.2.2.1 bt391.2.2.2.1 bt391.2.2.2.2).bind fun bt397 => ((spec_AddMonths.f k bt391.1 bt391.2.1 bt391.2.2.1 bt391.2.2.2.1 bt391.2.2.2.2).bind fun bt401 => (if (!(bt397.1 == bt401.1) || (!(bt397.2.1 == bt401.2.1) || (!(bt397.2.2 == bt401.2.2)))) = true then (some false) else (if (bt397.1 == 0 && (bt397.2.1 == 0 && (bt397.2.2 == 0))) = true then (some true) else ((impl_AddMonths.f k bt391.1 bt397.1 bt397.2.1 bt397.2.2 (wrap64 (-bt391.2.2.2.2))).bind fun bt404 => (if bt404.1 = bt391.2.1 then (if bt404.2.1 = bt391.2.2.1 then (some (decide (bt404.2.2 ≤ bt391.2.2.2.1))) else (some false)) else (some false))))))))
end

def laws_FnDays.f (k : Nat) (l0 : List Int) : Option (Bool) := if (l0.length : Int) > 1048576 then (some true) else ((spec_DrawDateOf.f k l0).bind fun bt362 => ((impl_DateOf.f k bt362.1 bt362.2).bind fun bt364 => ((spec_DateOf.f k bt362.1 bt362.2).bind fun bt368 => (if (!(bt364.1 == bt368.1) || (!(bt364.2.1 == bt368.2.1) || (!(bt364.2.2 == bt368.2.2)))) = true then (some false) else (if (bt364.1 == 0 && (bt364.2.1 == 0 && (bt364.2.2 == 0))) = true then ((impl_Weekday.f bt362.2).bind fun t371 => ((spec_Weekday.f bt362.2).bind fun t372 => (some (t371 == t372)))) else ((impl_DayOf.f k bt362.1 bt364.1 bt364.2.1 bt364.2.2).bind fun bt373 => (if bt373.2 = true then (laws_FnDays.j0 k l0 bt362.1 bt362.2 (bt373.1 != bt362.2) bt364.1 bt364.2.1 bt364.2.2) else (laws_FnDays.j0 k l0 bt362.1 bt362.2 true bt364.1 bt364.2.1 bt364.2.2))))))))

def laws_FnDays.T14 : Bool × List (List Nat × List Nat) := (true, [([], []), ([0], [0]), ([], []), ([], []), ([3], [3]), ([], []), ([5], [5]), ([2, 4, 6], [2, 4, 6]), ([1, 7], [1, 7]), ([8, 7, 0, 1, 2, 3, 4, 5, 6, 7, 8], [8])])

def laws_FnDays.B14 : List Nat := [0, 1, 0, 0, 8, 0, 32, 124, 255, 511]

theorem laws_FnDays.tab14 : rtab .any (opsOf Tryd.f5 14) = laws_FnDays.T14 := by kernel_rfl

theorem laws_FnDays.bits14 : waitsOk laws_FnDays.T14.2 laws_FnDays.B14 = true := by kernel_rfl

set_option maxHeartbeats 8000000 in
set_option maxRecDepth 100000 in
theorem laws_FnDays.calls_p1 (k : Nat) (A0 : Option Addr) (c0 : Nat) (l0 : List Int) (r : Bool) (w : World) (hr0 : Kd.C (Kd.int .u8) w A0 l0.length l0) (hc0 : l0.length ≤ c0) (hT : Tab w) (c2 : (l0.length : Int) > 1048576) (H : (some true) = some r) :
  Calls Tryd.prog 5 #[.slice A0 l0.length c0] w fun e w' => e = .returned (.bool r) ∧ Below w.heap.size w w' := by
 have hu36 := Tryd.underlying36
 have HR0 := Aside0.mk hr0
 have HC0 := Aside0.mk hc0
 clear hr0 hc0
 have HB := Aside0.mk (Below.refl w.heap.size w)
 have c2b0 : decide (1048576 < (l0.length : Int)) = true := decide_eq_true c2
 have c2b1 : decide (1048576 < l0.length) = true := decide_eq_true (by omega)
 clear c2
 obtain rfl := Option.some.inj H
 go_enter Tryd.func5, Tryd.ntmps5
 go_wp2
 go_ret
 exact ⟨by first | rfl | (simp [errW_none, errW_some] <;> rfl) | (simp [*, errW_none, errW_some] <;> rfl), by repeat (first | (with_reducible first | exact HB.out | apply z2q | apply z0q | apply z1q) | exact HB.out)⟩

set_option maxHeartbeats 8000000 in
set_option maxRecDepth 100000 in
theorem laws_FnDays.calls_p2 (k : Nat) (A0 : Option Addr) (c0 : Nat) (l0 : List Int) (r : Bool) (w : World) (hr0 : Kd.C (Kd.int .u8) w A0 l0.length l0) (hc0 : l0.length ≤ c0) (hT : Tab w) (t362 : _) (t363 : _) (t364 : _) (t365 : _) (t366 : _) (t368 : _) (t369 : _) (t370 : _) (t371 : _) (t372 : _) (A3 : Aside0 ((spec_DrawDateOf.f k l0) = some (t362, t363))) (A4 : Aside0 ((impl_DateOf.f k t362 t363) = some (t364, t365, t366))) (A5 : Aside0 ((spec_DateOf.f k t362 t363) = some (t368, t369, t370))) (A15 : Aside0 ((impl_Weekday.f t363) = some t371)) (A16 : Aside0 ((spec_Weekday.f t363) = some t372)) (c2 : ¬ ((l0.length : Int) > 1048576)) (c6 : ¬ ((!(t364 == t368) || (!(t365 == t369) || (!(t366 == t370)))) = true)) (c14 : (t364 == 0 && (t365 == 0 && (t366 == 0))) = true) (H : (some (t371 == t372)) = some r) :
  Calls Tryd.prog 5 #[.slice A0 l0.length c0] w fun e w' => e = .returned (.bool r) ∧ Below w.heap.size w w' := by
 have hu36 := Tryd.underlying36
 have HR0 := Aside0.mk hr0
 have HC0 := Aside0.mk hc0
 clear hr0 hc0
 have HB := Aside0.mk (Below.refl w.heap.size w)
 have c2b0 : decide (1048576 < (l0.length : Int)) = false := decide_eq_false c2
 have c2b1 : decide (1048576 < l0.length) = false := decide_eq_false (by omega)
 clear c2
 have c6b0 : (!(t364 == t368) || (!(t365 == t369) || (!(t366 == t370)))) = false := by simpa using c6
 clear c6
 have c14b0 : (t364 == 0 && (t365 == 0 && (t366 == 0))) = true := c14
 (try (have c14b1 : decide (t364 = 0 && (t365 == 0 && (t366 == 0))) = true := by simpa using c14))
 (try (have c14b2 : (t364 == 0 && (t365 == 0 && (t366 == 0))) = true := by simpa using c14))
 clear c14
 obtain rfl := Option.some.inj H
 go_enter Tryd.func5, Tryd.ntmps5
 try go_wp2_with (first | ((with_reducible refine z9q (f := 16) rfl ?_); refine z17q (some 27) rfl rfl Tryd.func16 (by kernel_rfl) rfl #[.slice A0 l0.length c0] rfl (by (try simp only [map_toArray, map_cons, map_nil]); first | done | rfl | (simp only [length_drop, length_take]; rfl)) ?_; (with_reducible refine (spec_DrawDateOf.calls k _ _ l0 t362 t363 _ ?side1 ?side2 A3.out).mono ?_); (case side1 => repeat (first | exact HR0.out | (with_reducible refine Kd.C_alloc ?_ _) | (with_reducible refine Kd.C_drewN ?_ _) | (with_reducible refine Kd.C_drew ?_))); (case side2 => exact HC0.out); rintro e w17 ⟨rfl, hb⟩; refine ⟨_, rfl, ?_⟩; have n0_ := Aside0.mk (z11q (by repeat (first | (with_reducible first | exact HB.out | apply z2q | apply z0q | apply z1q) | exact HB.out)) hb); clear HB; have HB := n0_; clear n0_; (try clear hb); (try clear hb2); (try clear hk); (try clear hi)) | ((with_reducible refine z9q (f := 17) rfl ?_); refine z17q (some 32) rfl rfl Tryd.func17 (by kernel_rfl) rfl #[.int .i64 t362, .int .i64 t363] rfl (by (try simp only [map_toArray, map_cons, map_nil]); first | done | rfl | (simp only [length_drop, length_take]; rfl)) ?_; (with_reducible refine (impl_DateOf.calls k t362 t363 t364 t365 t366 _ (hT.below (by repeat (first | exact HB.out | exact Below.refl _ _ | apply z2q | apply z0q | apply z1q | refine z3q ?_ GE367.out | refine z3q ?_ GE378.out | refine z3q ?_ GE396.out | refine z3q ?_ GE400.out | refine z3q ?_ GE407.out))) A4.out).mono ?_); rintro e w18 ⟨rfl, hb⟩; refine ⟨_, rfl, ?_⟩; have n0_ := Aside0.mk (z11q (by repeat (first | (with_reducible first | exact HB.out | apply z2q | apply z0q | apply z1q) | exact HB.out)) hb); clear HB; have HB := n0_; clear n0_; (try clear hb); (try clear hb2); (try clear hk); (try clear hi)) | ((with_reducible refine z22q (N := 5) rfl ?_); refine z20q ?hg (N := 5) ?hd (cs := #[.int .i64 0, .int .i64 0, .int .i64 0]) (t := 36) ?hr ?_; (case hd => rfl); (case hg => rfl); (case hr => first | (go_simp; done) | (go_simp; rfl)); intro gb367 hg w19 hbox hb; have n0_ := Aside0.mk (z11q (by repeat (first | (with_reducible first | exact HB.out | apply z2q | apply z0q | apply z1q) | exact HB.out)) hb); have n1_ := Aside0.mk (hbox); have n2_ := Aside0.mk ((by rw [hg]; exact (z12q (by repeat (first | (with_reducible first | exact HB.out | apply z2q | apply z0q | apply z1q) | exact HB.out))) : w.heap.size ≤ gb367)); have n3_ := Aside0.mk ((by rw [hg]; exact (z12q (by repeat (first | (with_reducible first | exact HB.out | apply z2q | apply z0q | apply z1q) | exact HB.out))) : w.heap.size ≤ gb367)); clear HB; have HB := n0_; have BK367 := n1_; have GW367 := n2_; have GE367 := n3_; clear n0_ n1_ n2_ n3_; clear hb hbox hg; have hcz20_0 : w19.cell? ⟨gb367, 0, none⟩ = some (.int .i64 0) := (z7q BK367.out 0).trans rfl; have hcz20_1 : w19.cell? ⟨gb367, 1, none⟩ = some (.int .i64 0) := (z7q BK367.out 1).trans rfl; have hcz20_2 : w19.cell? ⟨gb367, 2, none⟩ = some (.int .i64 0) := (z7q BK367.out 2).trans rfl; have hfz20_0 := z8q BK367.out 0; have hfz20_1 := z8q BK367.out 1; have hfz20_2 := z8q BK367.out 2))
 have n0_ : Aside0 ((((w19.setCell ⟨gb367, 0, none⟩ (.int .i64 t364)).setCell ⟨gb367, 1, none⟩ (.int .i64 t365)).setCell ⟨gb367, 2, none⟩ (.int .i64 t366)).heap[gb367]? = some (.cells #[.int .i64 t364, .int .i64 t365, .int .i64 t366] 36 (0, 0))) := ⟨by (with_reducible repeat (first | refine z4q ?_ _ | refine z6q ?_ | refine z5q ?_ _)); refine z14q (cs := #[.int .i64 t364, .int .i64 t365, .int .i64 0]) ?_ 2 _ rfl; (with_reducible repeat (first | refine z4q ?_ _ | refine z6q ?_ | refine z5q ?_ _)); refine z14q (cs := #[.int .i64 t364, .int .i64 0, .int .i64 0]) ?_ 1 _ rfl; (with_reducible repeat (first | refine z4q ?_ _ | refine z6q ?_ | refine z5q ?_ _)); refine z14q (cs := #[.int .i64 0, .int .i64 0, .int .i64 0]) ?_ 0 _ rfl; (with_reducible repeat (first | refine z4q ?_ _ | refine z6q ?_ | refine z5q ?_ _)); exact BK367.out⟩
 have n1_ : Aside0 (Below w.heap.size w (((w19.setCell ⟨gb367, 0, none⟩ (.int .i64 t364)).setCell ⟨gb367, 1, none⟩ (.int .i64 t365)).setCell ⟨gb367, 2, none⟩ (.int .i64 t366))) := ⟨by repeat (first | (with_reducible first | exact HB.out | apply z2q | apply z0q | apply z1q | refine z3q ?_ GE367.out) | exact HB.out)⟩
 (try clear BK367)
 (try clear HB)
 generalize (((w19.setCell ⟨gb367, 0, none⟩ (.int .i64 t364)).setCell ⟨gb367, 1, none⟩ (.int .i64 t365)).setCell ⟨gb367, 2, none⟩ (.int .i64 t366)) = w21 at n0_ n1_ ⊢
 have BK367 := n0_
 have HB := n1_
 clear n0_ n1_
 have n0_ := Aside0.mk (z6q BK367.out)
 have n1_ := Aside0.mk (z1q HB.out)
 clear BK367
 clear HB
 have BK367 := n0_
 have HB := n1_
 clear n0_ n1_
 refine start_ (n := 5) (S := fun w' => w'.cell? ⟨gb367, 0, none⟩ = some (.int .i64 t364) ∧ w'.cell? ⟨gb367, 1, none⟩ = some (.int .i64 t365) ∧ w'.cell? ⟨gb367, 2, none⟩ = some (.int .i64 t366)) (ds := []) #[false, false, false, false, false] (by kernel_rfl) rfl rfl ⟨(z7q BK367.out 0).trans rfl, (z7q BK367.out 1).trans rfl, (z7q BK367.out 2).trans rfl⟩ (fun hHeld => ?_)
 generalize w21.drew = w22 at BK367 HB hHeld ⊢
 refine pure_ (i := 1) (N := some 34) (v := ?_) (a' := ?_) #[false, true, false, false, false] rfl rfl (by kernel_rfl) (fun _ _ _ h => h) (Or.inl ⟨by rfl, ?_⟩) ?_ ?_
 rotate_left
 ·intro w'
  go_simp
  with_reducible rfl
 rotate_left
 ·simp only [Act.put, setIfInBounds_toArray, set_cons_zero, set_cons_succ, i64_w, i32_w]
  rfl
 refine pure_ (i := 2) (N := some 35) (v := ?_) (a' := ?_) #[false, true, true, false, false] rfl rfl (by kernel_rfl) (fun _ _ _ h => h) (Or.inl ⟨by rfl, ?_⟩) ?_ ?_
 rotate_left
 ·intro w'
  go_simp
  with_reducible rfl
 rotate_left
 ·simp only [Act.put, setIfInBounds_toArray, set_cons_zero, set_cons_succ, i64_w, i32_w]
  rfl
 refine take_ (i := 0) (N := some 33) (v := ?_) (a' := ?_) #[true, true, true, false, false] rfl rfl (by kernel_rfl) (fun _ _ _ h => h) (Or.inl ⟨by rfl, ?_⟩) hHeld ?_ ?_
 rotate_left
 ·rintro w' ⟨s0, s1, s2⟩
  go_simp
  with_reducible rfl
 rotate_left
 ·simp only [Act.put, setIfInBounds_toArray, set_cons_zero, set_cons_succ, i64_w, i32_w]
  rfl
 refine one_ (i := 3) (N := some 36) #[true, true, true, true, false] rfl rfl (by kernel_rfl) (by decide) (fun K hK => ?_)
 refine goes_ Tryd.func18 (by kernel_rfl) rfl #[.int .i64 t362, .int .i64 t363] (by rfl) rfl rfl (by (try simp only [map_toArray, map_cons, map_nil]); first | done | rfl | (simp only [length_drop, length_take]; rfl)) ?_
 with_reducible refine (spec_DateOf.calls k t362 t363 t368 t369 t370 _ A5.out).mono ?_
 rintro e w23 ⟨rfl, hb⟩
 refine ⟨_, rfl, ?_⟩
 have n0_ := Aside0.mk (z13q (g := gb367) (o := .cells #[.int .i64 t364, .int .i64 t365, .int .i64 t366] 36 (0, 0)) (by (with_reducible repeat (first | refine z4q ?_ _ | refine z6q ?_ | refine z5q ?_ _)); exact BK367.out) hb)
 have n1_ := Aside0.mk (z11q (by repeat (first | (with_reducible first | exact HB.out | apply z2q | apply z0q | apply z1q | refine z3q ?_ GE367.out) | exact HB.out)) hb)
 clear BK367
 clear HB
 have BK367 := n0_
 have HB := n1_
 clear n0_ n1_
 (try clear hb)
 (try clear hb2)
 (try clear hk)
 (try clear hi)
 refine hK.out _ _ ⟨(z7q BK367.out 0).trans rfl, (z7q BK367.out 1).trans rfl, (z7q BK367.out 2).trans rfl⟩ (fun hHeld => ?_)
 clear hK K
 refine norm_ (a' := ?_) ?_ ?_
 rotate_left
 ·show Act.put _ (some 36) _ = _
  simp only [Act.put, setIfInBounds_toArray, set_cons_zero, set_cons_succ, i64_w, i32_w]
  rfl
 refine pure_ (i := 4) (N := some 37) (v := ?_) (a' := ?_) #[true, true, true, true, true] rfl rfl (by kernel_rfl) (fun _ _ _ h => h) (Or.inl ⟨by rfl, ?_⟩) ?_ ?_
 rotate_left
 ·intro w'
  go_simp
  with_reducible rfl
 rotate_left
 ·simp only [Act.put, setIfInBounds_toArray, set_cons_zero, set_cons_succ, i64_w, i32_w]
  rfl
 refine done_ (by kernel_rfl) ?_
 have hcz24_0 : w23.cell? ⟨gb367, 0, none⟩ = some (.int .i64 t364) := (z7q BK367.out 0).trans rfl
 have hcz24_1 : w23.cell? ⟨gb367, 1, none⟩ = some (.int .i64 t365) := (z7q BK367.out 1).trans rfl
 have hcz24_2 : w23.cell? ⟨gb367, 2, none⟩ = some (.int .i64 t366) := (z7q BK367.out 2).trans rfl
 have hfz24_0 := z8q BK367.out 0
 have hfz24_1 := z8q BK367.out 1
 have hfz24_2 := z8q BK367.out 2
 try go_wp2_with (first | ((with_reducible refine z9q (f := 19) rfl ?_); refine z17q (some 42) rfl rfl Tryd.func19 (by kernel_rfl) rfl #[.int .i64 t363] rfl (by (try simp only [map_toArray, map_cons, map_nil]); first | done | rfl | (simp only [length_drop, length_take]; rfl)) ?_; (with_reducible refine (impl_Weekday.calls t363 t371 _ A15.out).mono ?_); rintro e w' ⟨rfl, ⟨nd, rfl⟩⟩; refine ⟨_, rfl, ?_⟩) | ((with_reducible refine z9q (f := 20) rfl ?_); refine z17q (some 44) rfl rfl Tryd.func20 (by kernel_rfl) rfl #[.int .i64 t363] rfl (by (try simp only [map_toArray, map_cons, map_nil]); first | done | rfl | (simp only [length_drop, length_take]; rfl)) ?_; (with_reducible refine (spec_Weekday.calls t363 t372 _ A16.out).mono ?_); rintro e w' ⟨rfl, ⟨nd, rfl⟩⟩; refine ⟨_, rfl, ?_⟩))
 go_ret
 exact ⟨by first | rfl | (simp [errW_none, errW_some] <;> rfl) | (simp [*, errW_none, errW_some] <;> rfl), by repeat (first | (with_reducible first | exact HB.out | apply z2q | apply z0q | apply z1q | refine z3q ?_ GE367.out) | exact HB.out)⟩

end Go.Proofs.YtffamggcjijobaaDoor.PFnDays
