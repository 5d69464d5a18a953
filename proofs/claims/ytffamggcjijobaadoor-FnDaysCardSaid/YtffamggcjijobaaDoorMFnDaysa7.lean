/- Functions of the program as Lean functions, and proofs that the Go code comes to their answers: for the law FnDays; made out of the print by a program of mine (compact.py). No conditions but each theorem's own. -/
import Derived.Test.YtffamggcjijobaaDoorMFnDaysa0
import Derived.Test.YtffamggcjijobaaDoorMFnDaysa1
import Derived.Test.YtffamggcjijobaaDoorMFnDaysa2
import Derived.Test.YtffamggcjijobaaDoorMFnDaysa4
import Derived.Test.YtffamggcjijobaaDoorMFnDaysa5
import Derived.Test.YtffamggcjijobaaDoorMFnDaysa6
namespace Go.Proofs.YtffamggcjijobaaDoor.PFnDays
open List (map_toArray map_cons map_nil length_drop length_take set_cons_zero set_cons_succ setIfInBounds_toArray)
open Go.RowKit Go.Proofs.YtffamggcjijobaaDoorW.PrintWords Go.Proofs.YtffamggcjijobaaDoorW.PrintLast Go.Proofs.YtffamggcjijobaaDoorW.PrintMore
attribute [local go_sem] max2_int min2_int max_two min_two max_three min_three max_four min_four   -- for this text's walks alone
set_option linter.unusedVariables false
set_option linter.unusedSimpArgs false

attribute [local go_sem high] eqA36
abbrev bt7_0 : Array Bool := #[false, false, false, false, false, false]
abbrev bt7_1 : Array Bool := #[true, false, false, false, false, false]
abbrev bt7_2 : Array Bool := #[true, false, true, false, false, false]
abbrev bt7_3 : Array Bool := #[true, false, true, true, false, false]
abbrev bt7_4 : Array Bool := #[false, false, false, false, false, false, false, false, false, false, false]
abbrev bt7_5 : Array Bool := #[true, false, false, false, false, false, false, false, false, false, false]
abbrev bt7_6 : Array Bool := #[true, true, false, false, false, false, false, false, false, false, false]
abbrev bt7_7 : Array Bool := #[true, true, true, false, false, false, false, false, false, false, false]
abbrev bt7_8 : Array Bool := #[true, true, true, false, true, false, false, false, false, false, false]
abbrev bt7_9 : Array Bool := #[true, true, true, false, true, true, false, false, false, false, false]
abbrev bt7_10 : Array Bool := #[true, true, true, false, true, true, true, false, false, false, false]
abbrev bt7_11 : Array Bool := #[true, true, true, true, true, true, true, false, false, false, false]
abbrev bt7_12 : Array Bool := #[true, true, true, true, true, true, true, true, false, false, false]
abbrev bt7_13 : Array Bool := #[true, true, true, true, true, true, true, true, true, false, false]
abbrev bt7_14 : Array Bool := #[true, true, true, true, true, true, true, true, true, true, false]
abbrev bt7_15 : Array Bool := #[true, true, true, true, true, true, true, true, true, true, true]
set_option maxHeartbeats 8000000 in
set_option maxRecDepth 100000 in
theorem spec_DrawAddMonths.calls_p1 (A0 : Option Addr) (c0 : Nat) (l0 : List Int) (r1 : Int) (r2 : Int) (r3 : Int) (r4 : Int) (r5 : Int) (w : World) (hr0 : Kd.C (Kd.int .u8) w A0 l0.length l0) (hc0 : l0.length ≤ c0) (t322 : _) (t323 : _) (t324 : _) (t325 : _) (t326 : _) (t327 : _) (t328 : _) (t329 : _) (t331 : _) (t332 : _) (t333 : _) (t334 : _) (t335 : _) (t336 : _) (A2 : Aside0 ((spec_l1Cur_cal.f l0 0 0) = some (t322, t323, t324))) (A3 : Aside0 ((spec_l1Cur_date.f l0 t323 t324) = some (t325, t326, t327, t328, t329))) (A4 : Aside0 ((spec_l1Cur_pick.f l0 t328 t329 60) = some (t331, t332, t333))) (A5 : Aside0 ((spec_l1Cur_one.f l0 t332 t333 5) = some (t334, t335, t336))) (c6 : t334 = true) (H : (if t334 = true then ((spec_l1Cur_pick.f l0 t335 t336 200010).bind fun bt337 => (some (t322, t325, t326, t327, wrap64 (bt337.1 - 100005)))) else (some (t322, t325, t326, t327, wrap64 (t331 - 25)))) = some (r1, r2, r3, r4, r5)) :
  Calls Tryd.prog 27 #[.slice A0 l0.length c0] w fun e w' => e = .returned (.tuple #[.int .i64 r1, .agg #[.int .i64 r2, .int .i64 r3, .int .i64 r4], .int .i64 r5]) ∧ Below w.heap.size w w' := by
 have hu36 := Tryd.underlying36
 have hu80 := Tryd.underlying80
 have HR0 := Aside0.mk hr0
 have HC0 := Aside0.mk hc0
 clear hr0 hc0
 have HB := Aside0.mk (Below.refl w.heap.size w)
 subst c6
 have H1 : ((spec_l1Cur_pick.f l0 t335 t336 200010).bind fun bt337 => (some (t322, t325, t326, t327, wrap64 (bt337.1 - 100005)))) = some (r1, r2, r3, r4, r5) := by rw [if_pos rfl] at H; exact H
 clear H
 have H := H1
 clear H1
 replace H := Option.bind_eq_some_iff.mp H
 obtain ⟨⟨t337, t338, t339⟩, A70, H⟩ := H
 replace H : (some (t322, t325, t326, t327, wrap64 (t337 - 100005))) = some (r1, r2, r3, r4, r5) := H
 have A7 := Aside0.mk A70
 clear A70
 simp only [Option.some.injEq, Prod.mk.injEq] at H
 obtain ⟨rfl, rfl, rfl, rfl, rfl⟩ := H
 go_enter Tryd.func27, Tryd.ntmps27
 try go_wp2_with (first | ((with_reducible refine z22q (N := 3) rfl ?_); refine z20q ?hg (N := 3) ?hd (cs := #[.int .i64 0, .int .i64 0, .int .i64 0]) (t := 36) ?hr ?_; (case hd => rfl); (case hg => rfl); (case hr => first | (go_simp; done) | (go_simp; rfl)); intro gb320 hg w8 hbox hb; have n0_ := Aside0.mk (z11q (by repeat (first | (with_reducible first | exact HB.out | apply z2q | apply z0q | apply z1q) | exact HB.out)) hb); have n1_ := Aside0.mk (hbox); have n2_ := Aside0.mk ((by rw [hg]; exact (z12q (by repeat (first | (with_reducible first | exact HB.out | apply z2q | apply z0q | apply z1q) | exact HB.out))) : w.heap.size ≤ gb320)); have n3_ := Aside0.mk ((by rw [hg]; exact (z12q (by repeat (first | (with_reducible first | exact HB.out | apply z2q | apply z0q | apply z1q) | exact HB.out))) : w.heap.size ≤ gb320)); clear HB; have HB := n0_; have BK320 := n1_; have GW320 := n2_; have GE320 := n3_; clear n0_ n1_ n2_ n3_; clear hb hbox hg) | ((with_reducible refine z22q (N := 11) rfl ?_); refine z20q ?hg (N := 11) ?hd (cs := #[.slice A0 l0.length c0, .int .i64 0, .int .u64 0]) (t := 80) ?hr ?_; (case hd => rfl); (case hg => rfl); (case hr => first | (go_simp; done) | (go_simp; rfl)); intro gb321 hg w9 hbox hb; have n0_ := Aside0.mk (z13q (g := gb320) (o := .cells #[.int .i64 0, .int .i64 0, .int .i64 0] 36 (0, 0)) (by (with_reducible repeat (first | refine z4q ?_ _ | refine z6q ?_ | refine z5q ?_ _)); exact BK320.out) hb); have n1_ := Aside0.mk (z11q (by repeat (first | (with_reducible first | exact HB.out | apply z2q | apply z0q | apply z1q | refine z3q ?_ GE320.out) | exact HB.out)) hb); have n2_ := Aside0.mk ((show IsS80 w w9 gb321 l0 0 0 from ⟨_, _, hbox, (by rw [hg]; exact (z12q (by repeat (first | (with_reducible first | exact HB.out | apply z2q | apply z0q | apply z1q | refine z3q ?_ GE320.out) | exact HB.out))) : w.heap.size ≤ gb321), HR0.out⟩)); have n3_ := Aside0.mk ((by rw [hg]; exact Nat.ne_of_lt (z21q (g := gb320) (o := .cells #[.int .i64 0, .int .i64 0, .int .i64 0] 36 (0, 0)) (by (with_reducible repeat (first | refine z4q ?_ _ | refine z6q ?_ | refine z5q ?_ _)); exact BK320.out)) : gb320 ≠ gb321)); have n4_ := Aside0.mk ((by rw [hg]; exact Nat.ne_of_gt (z21q (g := gb320) (o := .cells #[.int .i64 0, .int .i64 0, .int .i64 0] 36 (0, 0)) (by (with_reducible repeat (first | refine z4q ?_ _ | refine z6q ?_ | refine z5q ?_ _)); exact BK320.out)) : gb321 ≠ gb320)); clear BK320; clear HB; have BK320 := n0_; have HB := n1_; have HI321 := n2_; have NB320_321 := n3_; have NB321_320 := n4_; clear n0_ n1_ n2_ n3_ n4_; clear hb hbox hg) | ((with_reducible refine z9q (f := 51) rfl ?_); refine z17q (some 13) rfl rfl Tryd.func51 (by kernel_rfl) rfl #[.pointer (some ⟨gb321, 0, none⟩)] rfl (by (try simp only [map_toArray, map_cons, map_nil]); first | done | rfl | (simp only [length_drop, length_take]; rfl)) ?_; (with_reducible refine (spec_l1Cur_cal.calls gb321 l0 0 0 t322 t323 t324 w _ ?side1 ?side2 A2.out).mono ?_); (case side1 => repeat (first | (with_reducible first | exact HI321.out | apply IsS80.alloc | apply IsS80.drewN | apply IsS80.drew | apply IsS80.set_1 | apply IsS80.set_2 | refine IsS80.far ?_ NB321_320.out _) | exact HI321.out)); (case side2 => repeat (first | (with_reducible first | exact HB.out | apply z2q | apply z0q | apply z1q | refine z3q ?_ (IsS80.ge HI321.out) | refine z3q ?_ GE320.out) | exact HB.out)); rintro e w10 ⟨rfl, hi, hb, hk⟩; refine ⟨_, rfl, ?_⟩; have n0_ := Aside0.mk (KeepBut.blk hk (g' := gb320) (o := .cells #[.int .i64 0, .int .i64 0, .int .i64 0] 36 (0, 0)) (by (with_reducible repeat (first | refine z4q ?_ _ | refine z6q ?_ | refine z5q ?_ _)); exact BK320.out) NB320_321.out (by simp)); have n1_ := Aside0.mk (hb); have n2_ := Aside0.mk (hi); clear BK320; clear HB; clear HI321; have BK320 := n0_; have HB := n1_; have HI321 := n2_; clear n0_ n1_ n2_; (try clear hb); (try clear hb2); (try clear hk); (try clear hi)) | ((with_reducible refine z9q (f := 70) rfl ?_); refine z17q (some 15) rfl rfl Tryd.func70 (by kernel_rfl) rfl #[.pointer (some ⟨gb321, 0, none⟩)] rfl (by (try simp only [map_toArray, map_cons, map_nil]); first | done | rfl | (simp only [length_drop, length_take]; rfl)) ?_; (with_reducible refine (spec_l1Cur_date.calls gb321 l0 t323 t324 t325 t326 t327 t328 t329 w _ ?side1 ?side2 A3.out).mono ?_); (case side1 => repeat (first | (with_reducible first | exact HI321.out | apply IsS80.alloc | apply IsS80.drewN | apply IsS80.drew | apply IsS80.set_1 | apply IsS80.set_2 | refine IsS80.far ?_ NB321_320.out _) | exact HI321.out)); (case side2 => repeat (first | (with_reducible first | exact HB.out | apply z2q | apply z0q | apply z1q | refine z3q ?_ (IsS80.ge HI321.out) | refine z3q ?_ GE320.out) | exact HB.out)); rintro e w11 ⟨rfl, hi, hb, hk⟩; refine ⟨_, rfl, ?_⟩; have n0_ := Aside0.mk (KeepBut.blk hk (g' := gb320) (o := .cells #[.int .i64 0, .int .i64 0, .int .i64 0] 36 (0, 0)) (by (with_reducible repeat (first | refine z4q ?_ _ | refine z6q ?_ | refine z5q ?_ _)); exact BK320.out) NB320_321.out (by simp)); have n1_ := Aside0.mk (hb); have n2_ := Aside0.mk (hi); clear BK320; clear HB; clear HI321; have BK320 := n0_; have HB := n1_; have HI321 := n2_; clear n0_ n1_ n2_; (try clear hb); (try clear hb2); (try clear hk); (try clear hi)) | ((with_reducible refine z22q (N := 7) rfl ?_); refine z20q ?hg (N := 7) ?hd (cs := #[.int .i64 0, .int .i64 0, .int .i64 0]) (t := 36) ?hr ?_; (case hd => rfl); (case hg => rfl); (case hr => first | (go_simp; done) | (go_simp; rfl)); intro gb330 hg w12 hbox hb; have n0_ := Aside0.mk (z13q (g := gb320) (o := .cells #[.int .i64 0, .int .i64 0, .int .i64 0] 36 (0, 0)) (by (with_reducible repeat (first | refine z4q ?_ _ | refine z6q ?_ | refine z5q ?_ _)); exact BK320.out) hb); have n1_ := Aside0.mk (IsS80.below (by (try simp only [Int.add_zero]); repeat (first | (with_reducible first | exact HI321.out | apply IsS80.alloc | apply IsS80.drewN | apply IsS80.drew | apply IsS80.set_1 | apply IsS80.set_2 | refine IsS80.far ?_ NB321_320.out _) | exact HI321.out)) hb); have n2_ := Aside0.mk (z11q (by repeat (first | (with_reducible first | exact HB.out | apply z2q | apply z0q | apply z1q | refine z3q ?_ (IsS80.ge HI321.out) | refine z3q ?_ GE320.out) | exact HB.out)) hb); have n3_ := Aside0.mk (hbox); have n4_ := Aside0.mk ((by rw [hg]; exact (z12q (by repeat (first | (with_reducible first | exact HB.out | apply z2q | apply z0q | apply z1q | refine z3q ?_ (IsS80.ge HI321.out) | refine z3q ?_ GE320.out) | exact HB.out))) : w.heap.size ≤ gb330)); have n5_ := Aside0.mk ((by rw [hg]; exact (z12q (by repeat (first | (with_reducible first | exact HB.out | apply z2q | apply z0q | apply z1q | refine z3q ?_ (IsS80.ge HI321.out) | refine z3q ?_ GE320.out) | exact HB.out))) : w.heap.size ≤ gb330)); have n6_ := Aside0.mk ((by rw [hg]; exact Nat.ne_of_lt (z21q (g := gb320) (o := .cells #[.int .i64 0, .int .i64 0, .int .i64 0] 36 (0, 0)) (by (with_reducible repeat (first | refine z4q ?_ _ | refine z6q ?_ | refine z5q ?_ _)); exact BK320.out)) : gb320 ≠ gb330)); have n7_ := Aside0.mk ((by rw [hg]; exact Nat.ne_of_gt (z21q (g := gb320) (o := .cells #[.int .i64 0, .int .i64 0, .int .i64 0] 36 (0, 0)) (by (with_reducible repeat (first | refine z4q ?_ _ | refine z6q ?_ | refine z5q ?_ _)); exact BK320.out)) : gb330 ≠ gb320)); have n8_ := Aside0.mk ((by rw [hg]; exact Nat.ne_of_lt (IsS80.lt (show IsS80 w _ gb321 l0 t328 t329 from by (try simp only [Int.add_zero]); repeat (first | (with_reducible first | exact HI321.out | apply IsS80.alloc | apply IsS80.drewN | apply IsS80.drew | apply IsS80.set_1 | apply IsS80.set_2 | refine IsS80.far ?_ NB321_320.out _) | exact HI321.out))) : gb321 ≠ gb330)); have n9_ := Aside0.mk ((by rw [hg]; exact Nat.ne_of_gt (IsS80.lt (show IsS80 w _ gb321 l0 t328 t329 from by (try simp only [Int.add_zero]); repeat (first | (with_reducible first | exact HI321.out | apply IsS80.alloc | apply IsS80.drewN | apply IsS80.drew | apply IsS80.set_1 | apply IsS80.set_2 | refine IsS80.far ?_ NB321_320.out _) | exact HI321.out))) : gb330 ≠ gb321)); clear BK320; clear HI321; clear HB; have BK320 := n0_; have HI321 := n1_; have HB := n2_; have BK330 := n3_; have GW330 := n4_; have GE330 := n5_; have NB320_330 := n6_; have NB330_320 := n7_; have NB321_330 := n8_; have NB330_321 := n9_; clear n0_ n1_ n2_ n3_ n4_ n5_ n6_ n7_ n8_ n9_; clear hb hbox hg; have hnb13 := NB330_320.out; have hnc13 := NB320_330.out; have hnb14 := NB330_321.out; have hnc14 := NB321_330.out; have hcz15_0 : w12.cell? ⟨gb330, 0, none⟩ = some (.int .i64 0) := (z7q BK330.out 0).trans rfl; have hcz15_1 : w12.cell? ⟨gb330, 1, none⟩ = some (.int .i64 0) := (z7q BK330.out 1).trans rfl; have hcz15_2 : w12.cell? ⟨gb330, 2, none⟩ = some (.int .i64 0) := (z7q BK330.out 2).trans rfl; have hfz15_0 := z8q BK330.out 0; have hfz15_1 := z8q BK330.out 1; have hfz15_2 := z8q BK330.out 2) | ((with_reducible refine z9q (f := 71) rfl ?_); refine z17q (some 17) rfl rfl Tryd.func71 (by kernel_rfl) rfl #[.pointer (some ⟨gb321, 0, none⟩), .int .i64 60] rfl (by (try simp only [map_toArray, map_cons, map_nil]); first | done | rfl | (simp only [length_drop, length_take]; rfl)) ?_; (with_reducible refine (spec_l1Cur_pick.calls gb321 l0 t328 t329 60 t331 t332 t333 w _ ?side1 ?side2 A4.out).mono ?_); (case side1 => repeat (first | (with_reducible first | exact HI321.out | apply IsS80.alloc | apply IsS80.drewN | apply IsS80.drew | apply IsS80.set_1 | apply IsS80.set_2 | refine IsS80.far ?_ NB321_320.out _ | refine IsS80.far ?_ NB321_330.out _) | exact HI321.out)); (case side2 => repeat (first | (with_reducible first | exact HB.out | apply z2q | apply z0q | apply z1q | refine z3q ?_ (IsS80.ge HI321.out) | refine z3q ?_ GE320.out | refine z3q ?_ GE330.out) | exact HB.out)); rintro e w16 ⟨rfl, hi, hb, hk⟩; refine ⟨_, rfl, ?_⟩; have n0_ := Aside0.mk (KeepBut.blk hk (g' := gb320) (o := .cells #[.int .i64 0, .int .i64 0, .int .i64 0] 36 (0, 0)) (by (with_reducible repeat (first | refine z4q ?_ _ | refine z6q ?_ | refine z5q ?_ _)); refine z18q ?_ NB320_330.out _; (with_reducible repeat (first | refine z4q ?_ _ | refine z6q ?_ | refine z5q ?_ _)); refine z18q ?_ NB320_330.out _; (with_reducible repeat (first | refine z4q ?_ _ | refine z6q ?_ | refine z5q ?_ _)); refine z18q ?_ NB320_330.out _; (with_reducible repeat (first | refine z4q ?_ _ | refine z6q ?_ | refine z5q ?_ _)); exact BK320.out) NB320_321.out (by simp)); have n1_ := Aside0.mk (KeepBut.blk hk (g' := gb330) (o := .cells #[.int .i64 t325, .int .i64 t326, .int .i64 t327] 36 (0, 0)) (by (with_reducible repeat (first | refine z4q ?_ _ | refine z6q ?_ | refine z5q ?_ _)); refine z14q (cs := #[.int .i64 t325, .int .i64 t326, .int .i64 0]) ?_ 2 _ rfl; (with_reducible repeat (first | refine z4q ?_ _ | refine z6q ?_ | refine z5q ?_ _)); refine z14q (cs := #[.int .i64 t325, .int .i64 0, .int .i64 0]) ?_ 1 _ rfl; (with_reducible repeat (first | refine z4q ?_ _ | refine z6q ?_ | refine z5q ?_ _)); refine z14q (cs := #[.int .i64 0, .int .i64 0, .int .i64 0]) ?_ 0 _ rfl; (with_reducible repeat (first | refine z4q ?_ _ | refine z6q ?_ | refine z5q ?_ _)); exact BK330.out) NB330_321.out (by simp)); have n2_ := Aside0.mk (hb); have n3_ := Aside0.mk (hi); clear BK320; clear BK330; clear HB; clear HI321; have BK320 := n0_; have BK330 := n1_; have HB := n2_; have HI321 := n3_; clear n0_ n1_ n2_ n3_; (try clear hb); (try clear hb2); (try clear hk); (try clear hi)) | ((with_reducible refine z9q (f := 72) rfl ?_); refine z17q (some 20) rfl rfl Tryd.func72 (by kernel_rfl) rfl #[.pointer (some ⟨gb321, 0, none⟩), .int .i64 5] rfl (by (try simp only [map_toArray, map_cons, map_nil]); first | done | rfl | (simp only [length_drop, length_take]; rfl)) ?_; (with_reducible refine (spec_l1Cur_one.calls gb321 l0 t332 t333 5 true t335 t336 w _ ?side1 ?side2 A5.out).mono ?_); (case side1 => repeat (first | (with_reducible first | exact HI321.out | apply IsS80.alloc | apply IsS80.drewN | apply IsS80.drew | apply IsS80.set_1 | apply IsS80.set_2 | refine IsS80.far ?_ NB321_320.out _ | refine IsS80.far ?_ NB321_330.out _) | exact HI321.out)); (case side2 => repeat (first | (with_reducible first | exact HB.out | apply z2q | apply z0q | apply z1q | refine z3q ?_ (IsS80.ge HI321.out) | refine z3q ?_ GE320.out | refine z3q ?_ GE330.out) | exact HB.out)); rintro e w17 ⟨rfl, hi, hb, hk⟩; refine ⟨_, rfl, ?_⟩; have n0_ := Aside0.mk (KeepBut.blk hk (g' := gb320) (o := .cells #[.int .i64 0, .int .i64 0, .int .i64 0] 36 (0, 0)) (by (with_reducible repeat (first | refine z4q ?_ _ | refine z6q ?_ | refine z5q ?_ _)); exact BK320.out) NB320_321.out (by simp)); have n1_ := Aside0.mk (KeepBut.blk hk (g' := gb330) (o := .cells #[.int .i64 t325, .int .i64 t326, .int .i64 t327] 36 (0, 0)) (by (with_reducible repeat (first | refine z4q ?_ _ | refine z6q ?_ | refine z5q ?_ _)); exact BK330.out) NB330_321.out (by simp)); have n2_ := Aside0.mk (hb); have n3_ := Aside0.mk (hi); clear BK320; clear BK330; clear HB; clear HI321; have BK320 := n0_; have BK330 := n1_; have HB := n2_; have HI321 := n3_; clear n0_ n1_ n2_ n3_; (try clear hb); (try clear hb2); (try clear hk); (try clear hi)) | ((with_reducible refine z9q (f := 71) rfl ?_); refine z17q (some 22) rfl rfl Tryd.func71 (by kernel_rfl) rfl #[.pointer (some ⟨gb321, 0, none⟩), .int .i64 200010] rfl (by (try simp only [map_toArray, map_cons, map_nil]); first | done | rfl | (simp only [length_drop, length_take]; rfl)) ?_; (with_reducible refine (spec_l1Cur_pick.calls gb321 l0 t335 t336 200010 t337 t338 t339 w _ ?side1 ?side2 A7.out).mono ?_); (case side1 => repeat (first | (with_reducible first | exact HI321.out | apply IsS80.alloc | apply IsS80.drewN | apply IsS80.drew | apply IsS80.set_1 | apply IsS80.set_2 | refine IsS80.far ?_ NB321_320.out _ | refine IsS80.far ?_ NB321_330.out _) | exact HI321.out)); (case side2 => repeat (first | (with_reducible first | exact HB.out | apply z2q | apply z0q | apply z1q | refine z3q ?_ (IsS80.ge HI321.out) | refine z3q ?_ GE320.out | refine z3q ?_ GE330.out) | exact HB.out)); rintro e w18 ⟨rfl, hi, hb, hk⟩; refine ⟨_, rfl, ?_⟩; have n0_ := Aside0.mk (KeepBut.blk hk (g' := gb320) (o := .cells #[.int .i64 0, .int .i64 0, .int .i64 0] 36 (0, 0)) (by (with_reducible repeat (first | refine z4q ?_ _ | refine z6q ?_ | refine z5q ?_ _)); exact BK320.out) NB320_321.out (by simp)); have n1_ := Aside0.mk (KeepBut.blk hk (g' := gb330) (o := .cells #[.int .i64 t325, .int .i64 t326, .int .i64 t327] 36 (0, 0)) (by (with_reducible repeat (first | refine z4q ?_ _ | refine z6q ?_ | refine z5q ?_ _)); exact BK330.out) NB330_321.out (by simp)); have n2_ := Aside0.mk (hb); have n3_ := Aside0.mk (hi); clear BK320; clear BK330; clear HB; clear HI321; have BK320 := n0_; have BK330 := n1_; have HB := n2_; have HI321 := n3_; clear n0_ n1_ n2_ n3_; (try clear hb); (try clear hb2); (try clear hk); (try clear hi)))
 have n0_ := Aside0.mk (z6q BK320.out)
 have n1_ := Aside0.mk (z6q BK330.out)
 have n2_ := Aside0.mk (IsS80.drew HI321.out)
 have n3_ := Aside0.mk (z1q HB.out)
 clear BK320
 clear BK330
 clear HI321
 clear HB
 have BK320 := n0_
 have BK330 := n1_
 have HI321 := n2_
 have HB := n3_
 clear n0_ n1_ n2_ n3_
 refine start_ (n := 6) (S := fun w' => w'.cell? ⟨gb330, 0, none⟩ = some (.int .i64 t325) ∧ w'.cell? ⟨gb330, 1, none⟩ = some (.int .i64 t326) ∧ w'.cell? ⟨gb330, 2, none⟩ = some (.int .i64 t327)) (ds := []) bt7_0 (by kernel_rfl) rfl rfl ⟨(z7q BK330.out 0).trans rfl, (z7q BK330.out 1).trans rfl, (z7q BK330.out 2).trans rfl⟩ (fun hHeld => ?_)
 generalize w18.drew = w19 at BK320 BK330 HI321 HB hHeld ⊢
 refine pure_ (i := 0) (N := some 24) (v := ?_) (a' := ?_) bt7_1 rfl rfl (by kernel_rfl) (fun _ _ _ h => h) (Or.inl ⟨by rfl, ?_⟩) ?_ ?_
 rotate_left
 ·intro w'
  go_simp
  with_reducible rfl
 rotate_left
 ·simp only [Act.put, setIfInBounds_toArray, set_cons_zero, set_cons_succ, i64_w, i32_w]
  rfl
 refine pure_ (i := 2) (N := some 26) (v := ?_) (a' := ?_) bt7_2 rfl rfl (by kernel_rfl) (fun _ _ _ h => h) (Or.inl ⟨by rfl, ?_⟩) ?_ ?_
 rotate_left
 ·intro w'
  go_simp
  with_reducible rfl
 rotate_left
 ·simp only [Act.put, setIfInBounds_toArray, set_cons_zero, set_cons_succ, i64_w, i32_w]
  rfl
 refine pure_ (i := 3) (N := some 2) (v := ?_) (a' := ?_) bt7_3 rfl rfl (by kernel_rfl) (fun _ _ _ h => h) (Or.inl ⟨by rfl, ?_⟩) ?_ ?_
 rotate_left
 ·intro w'
  go_simp
  with_reducible rfl
 rotate_left
 ·simp only [Act.put, setIfInBounds_toArray, set_cons_zero, set_cons_succ, i64_w, i32_w]
  rfl
 refine take_ (i := 1) (N := some 25) (v := ?_) (a' := ?_) #[true, true, true, true, false, false] rfl rfl (by kernel_rfl) (fun _ _ _ h => h) (Or.inl ⟨by rfl, ?_⟩) hHeld ?_ ?_
 rotate_left
 ·rintro w' ⟨s0, s1, s2⟩
  go_simp
  with_reducible rfl
 rotate_left
 ·simp only [Act.put, setIfInBounds_toArray, set_cons_zero, set_cons_succ, i64_w, i32_w]
  rfl
 refine one_ (i := 4) (N := none) #[true, true, true, true, true, false] rfl rfl (by kernel_rfl) (by decide) (fun K hK => ?_)
 have hs20 : w19.cell? ⟨gb320, 0, none⟩ = some (.int .i64 0) := (z7q BK320.out 0).trans rfl
 have hfs20 := z8q BK320.out 0
 have hns20_1 := NB330_320.out
 have hms20_1 := NB320_330.out
 have hs21 : w19.cell? ⟨gb320, 1, none⟩ = some (.int .i64 0) := (z7q BK320.out 1).trans rfl
 have hfs21 := z8q BK320.out 1
 have hns21_1 := NB330_320.out
 have hms21_1 := NB320_330.out
 have hs22 : w19.cell? ⟨gb320, 2, none⟩ = some (.int .i64 0) := (z7q BK320.out 2).trans rfl
 have hfs22 := z8q BK320.out 2
 have hns22_1 := NB330_320.out
 have hms22_1 := NB320_330.out
 refine skip_ (w1 := ?_) (by rfl) rfl ?_ ?_
 rotate_left
 ·go_simp
  rfl
 refine hK.out _ _ ⟨((z24q (p := ⟨gb320, _, none⟩) NB330_320.out _).trans (((z24q (p := ⟨gb320, _, none⟩) NB330_320.out _).trans (((z24q (p := ⟨gb320, _, none⟩) NB330_320.out _).trans (hHeld.1)))))), ((z24q (p := ⟨gb320, _, none⟩) NB330_320.out _).trans (((z24q (p := ⟨gb320, _, none⟩) NB330_320.out _).trans (((z24q (p := ⟨gb320, _, none⟩) NB330_320.out _).trans (hHeld.2.1)))))), ((z24q (p := ⟨gb320, _, none⟩) NB330_320.out _).trans (((z24q (p := ⟨gb320, _, none⟩) NB330_320.out _).trans (((z24q (p := ⟨gb320, _, none⟩) NB330_320.out _).trans (hHeld.2.2))))))⟩ (fun hHeld => ?_)
 clear hK K
 refine pure_ (i := 5) (N := some 4) (v := ?_) (a' := ?_) #[true, true, true, true, true, true] rfl rfl (by kernel_rfl) (fun _ _ _ h => h) (Or.inl ⟨by rfl, ?_⟩) ?_ ?_
 rotate_left
 ·intro w'
  go_simp
  with_reducible rfl
 rotate_left
 ·simp only [Act.put, setIfInBounds_toArray, set_cons_zero, set_cons_succ, i64_w, i32_w]
  rfl
 refine done_ (by kernel_rfl) ?_
 try go_wp2
 refine bodyPost_ret (results_list (rs := [.tmp 2, .cell 3 36, .tmp 4]) rfl (by simp) (.tmp (.cell gb320 36 #[.int .i64 t325, .int .i64 t326, .int .i64 t327] (0, 0) _ rfl (by (with_reducible repeat (first | refine z4q ?_ _ | refine z6q ?_ | refine z5q ?_ _)); refine z14q (cs := #[.int .i64 t325, .int .i64 t326, .int .i64 0]) ?_ 2 _ rfl; (with_reducible repeat (first | refine z4q ?_ _ | refine z6q ?_ | refine z5q ?_ _)); refine z14q (cs := #[.int .i64 t325, .int .i64 0, .int .i64 0]) ?_ 1 _ rfl; (with_reducible repeat (first | refine z4q ?_ _ | refine z6q ?_ | refine z5q ?_ _)); refine z14q (cs := #[.int .i64 0, .int .i64 0, .int .i64 0]) ?_ 0 _ rfl; (with_reducible repeat (first | refine z4q ?_ _ | refine z6q ?_ | refine z5q ?_ _)); exact BK320.out) Tryd.underlying36 rfl (by kernel_rfl) (.tmp .nil)))) rfl ?_
 exact ⟨by first | rfl | (simp [errW_none, errW_some] <;> rfl) | (simp [*, errW_none, errW_some] <;> rfl), by repeat (first | (with_reducible first | exact HB.out | apply z2q | apply z0q | apply z1q | refine z3q ?_ (IsS80.ge HI321.out) | refine z3q ?_ GE320.out | refine z3q ?_ GE330.out) | exact HB.out)⟩

set_option maxHeartbeats 8000000 in
set_option maxRecDepth 100000 in
theorem spec_DrawAddMonths.calls_p2 (A0 : Option Addr) (c0 : Nat) (l0 : List Int) (r1 : Int) (r2 : Int) (r3 : Int) (r4 : Int) (r5 : Int) (w : World) (hr0 : Kd.C (Kd.int .u8) w A0 l0.length l0) (hc0 : l0.length ≤ c0) (t322 : _) (t323 : _) (t324 : _) (t325 : _) (t326 : _) (t327 : _) (t328 : _) (t329 : _) (t331 : _) (t332 : _) (t333 : _) (t334 : _) (t335 : _) (t336 : _) (A2 : Aside0 ((spec_l1Cur_cal.f l0 0 0) = some (t322, t323, t324))) (A3 : Aside0 ((spec_l1Cur_date.f l0 t323 t324) = some (t325, t326, t327, t328, t329))) (A4 : Aside0 ((spec_l1Cur_pick.f l0 t328 t329 60) = some (t331, t332, t333))) (A5 : Aside0 ((spec_l1Cur_one.f l0 t332 t333 5) = some (t334, t335, t336))) (c6 : ¬ (t334 = true)) (H : (if t334 = true then ((spec_l1Cur_pick.f l0 t335 t336 200010).bind fun bt337 => (some (t322, t325, t326, t327, wrap64 (bt337.1 - 100005)))) else (some (t322, t325, t326, t327, wrap64 (t331 - 25)))) = some (r1, r2, r3, r4, r5)) :
  Calls Tryd.prog 27 #[.slice A0 l0.length c0] w fun e w' => e = .returned (.tuple #[.int .i64 r1, .agg #[.int .i64 r2, .int .i64 r3, .int .i64 r4], .int .i64 r5]) ∧ Below w.heap.size w w' := by
 have hu36 := Tryd.underlying36
 have hu80 := Tryd.underlying80
 have HR0 := Aside0.mk hr0
 have HC0 := Aside0.mk hc0
 clear hr0 hc0
 have HB := Aside0.mk (Below.refl w.heap.size w)
 replace c6 := Bool.eq_false_iff.mpr c6
 subst c6
 have H1 : (some (t322, t325, t326, t327, wrap64 (t331 - 25))) = some (r1, r2, r3, r4, r5) := by rw [if_neg (show ¬ (false = true) by decide)] at H; exact H
 clear H
 have H := H1
 clear H1
 simp only [Option.some.injEq, Prod.mk.injEq] at H
 obtain ⟨rfl, rfl, rfl, rfl, rfl⟩ := H
 go_enter Tryd.func27, Tryd.ntmps27
 try go_wp2_with (first | ((with_reducible refine z22q (N := 3) rfl ?_); refine z20q ?hg (N := 3) ?hd (cs := #[.int .i64 0, .int .i64 0, .int .i64 0]) (t := 36) ?hr ?_; (case hd => rfl); (case hg => rfl); (case hr => first | (go_simp; done) | (go_simp; rfl)); intro gb320 hg w23 hbox hb; have n0_ := Aside0.mk (z11q (by repeat (first | (with_reducible first | exact HB.out | apply z2q | apply z0q | apply z1q) | exact HB.out)) hb); have n1_ := Aside0.mk (hbox); have n2_ := Aside0.mk ((by rw [hg]; exact (z12q (by repeat (first | (with_reducible first | exact HB.out | apply z2q | apply z0q | apply z1q) | exact HB.out))) : w.heap.size ≤ gb320)); have n3_ := Aside0.mk ((by rw [hg]; exact (z12q (by repeat (first | (with_reducible first | exact HB.out | apply z2q | apply z0q | apply z1q) | exact HB.out))) : w.heap.size ≤ gb320)); clear HB; have HB := n0_; have BK320 := n1_; have GW320 := n2_; have GE320 := n3_; clear n0_ n1_ n2_ n3_; clear hb hbox hg) | ((with_reducible refine z22q (N := 11) rfl ?_); refine z20q ?hg (N := 11) ?hd (cs := #[.slice A0 l0.length c0, .int .i64 0, .int .u64 0]) (t := 80) ?hr ?_; (case hd => rfl); (case hg => rfl); (case hr => first | (go_simp; done) | (go_simp; rfl)); intro gb321 hg w24 hbox hb; have n0_ := Aside0.mk (z13q (g := gb320) (o := .cells #[.int .i64 0, .int .i64 0, .int .i64 0] 36 (0, 0)) (by (with_reducible repeat (first | refine z4q ?_ _ | refine z6q ?_ | refine z5q ?_ _)); exact BK320.out) hb); have n1_ := Aside0.mk (z11q (by repeat (first | (with_reducible first | exact HB.out | apply z2q | apply z0q | apply z1q | refine z3q ?_ GE320.out) | exact HB.out)) hb); have n2_ := Aside0.mk ((show IsS80 w w24 gb321 l0 0 0 from ⟨_, _, hbox, (by rw [hg]; exact (z12q (by repeat (first | (with_reducible first | exact HB.out | apply z2q | apply z0q | apply z1q | refine z3q ?_ GE320.out) | exact HB.out))) : w.heap.size ≤ gb321), HR0.out⟩)); have n3_ := Aside0.mk ((by rw [hg]; exact Nat.ne_of_lt (z21q (g := gb320) (o := .cells #[.int .i64 0, .int .i64 0, .int .i64 0] 36 (0, 0)) (by (with_reducible repeat (first | refine z4q ?_ _ | refine z6q ?_ | refine z5q ?_ _)); exact BK320.out)) : gb320 ≠ gb321)); have n4_ := Aside0.mk ((by rw [hg]; exact Nat.ne_of_gt (z21q (g := gb320) (o := .cells #[.int .i64 0, .int .i64 0, .int .i64 0] 36 (0, 0)) (by (with_reducible repeat (first | refine z4q ?_ _ | refine z6q ?_ | refine z5q ?_ _)); exact BK320.out)) : gb321 ≠ gb320)); clear BK320; clear HB; have BK320 := n0_; have HB := n1_; have HI321 := n2_; have NB320_321 := n3_; have NB321_320 := n4_; clear n0_ n1_ n2_ n3_ n4_; clear hb hbox hg) | ((with_reducible refine z9q (f := 51) rfl ?_); refine z17q (some 13) rfl rfl Tryd.func51 (by kernel_rfl) rfl #[.pointer (some ⟨gb321, 0, none⟩)] rfl (by (try simp only [map_toArray, map_cons, map_nil]); first | done | rfl | (simp only [length_drop, length_take]; rfl)) ?_; (with_reducible refine (spec_l1Cur_cal.calls gb321 l0 0 0 t322 t323 t324 w _ ?side1 ?side2 A2.out).mono ?_); (case side1 => repeat (first | (with_reducible first | exact HI321.out | apply IsS80.alloc | apply IsS80.drewN | apply IsS80.drew | apply IsS80.set_1 | apply IsS80.set_2 | refine IsS80.far ?_ NB321_320.out _) | exact HI321.out)); (case side2 => repeat (first | (with_reducible first | exact HB.out | apply z2q | apply z0q | apply z1q | refine z3q ?_ (IsS80.ge HI321.out) | refine z3q ?_ GE320.out) | exact HB.out)); rintro e w25 ⟨rfl, hi, hb, hk⟩; refine ⟨_, rfl, ?_⟩; have n0_ := Aside0.mk (KeepBut.blk hk (g' := gb320) (o := .cells #[.int .i64 0, .int .i64 0, .int .i64 0] 36 (0, 0)) (by (with_reducible repeat (first | refine z4q ?_ _ | refine z6q ?_ | refine z5q ?_ _)); exact BK320.out) NB320_321.out (by simp)); have n1_ := Aside0.mk (hb); have n2_ := Aside0.mk (hi); clear BK320; clear HB; clear HI321; have BK320 := n0_; have HB := n1_; have HI321 := n2_; clear n0_ n1_ n2_; (try clear hb); (try clear hb2); (try clear hk); (try clear hi)) | ((with_reducible refine z9q (f := 70) rfl ?_); refine z17q (some 15) rfl rfl Tryd.func70 (by kernel_rfl) rfl #[.pointer (some ⟨gb321, 0, none⟩)] rfl (by (try simp only [map_toArray, map_cons, map_nil]); first | done | rfl | (simp only [length_drop, length_take]; rfl)) ?_; (with_reducible refine (spec_l1Cur_date.calls gb321 l0 t323 t324 t325 t326 t327 t328 t329 w _ ?side1 ?side2 A3.out).mono ?_); (case side1 => repeat (first | (with_reducible first | exact HI321.out | apply IsS80.alloc | apply IsS80.drewN | apply IsS80.drew | apply IsS80.set_1 | apply IsS80.set_2 | refine IsS80.far ?_ NB321_320.out _) | exact HI321.out)); (case side2 => repeat (first | (with_reducible first | exact HB.out | apply z2q | apply z0q | apply z1q | refine z3q ?_ (IsS80.ge HI321.out) | refine z3q ?_ GE320.out) | exact HB.out)); rintro e w26 ⟨rfl, hi, hb, hk⟩; refine ⟨_, rfl, ?_⟩; have n0_ := Aside0.mk (KeepBut.blk hk (g' := gb320) (o := .cells #[.int .i64 0, .int .i64 0, .int .i64 0] 36 (0, 0)) (by (with_reducible repeat (first | refine z4q ?_ _ | refine z6q ?_ | refine z5q ?_ _)); exact BK320.out) NB320_321.out (by simp)); have n1_ := Aside0.mk (hb); have n2_ := Aside0.mk (hi); clear BK320; clear HB; clear HI321; have BK320 := n0_; have HB := n1_; have HI321 := n2_; clear n0_ n1_ n2_; (try clear hb); (try clear hb2); (try clear hk); (try clear hi)) | ((with_reducible refine z22q (N := 7) rfl ?_); refine z20q ?hg (N := 7) ?hd (cs := #[.int .i64 0, .int .i64 0, .int .i64 0]) (t := 36) ?hr ?_; (case hd => rfl); (case hg => rfl); (case hr => first | (go_simp; done) | (go_simp; rfl)); intro gb330 hg w27 hbox hb; have n0_ := Aside0.mk (z13q (g := gb320) (o := .cells #[.int .i64 0, .int .i64 0, .int .i64 0] 36 (0, 0)) (by (with_reducible repeat (first | refine z4q ?_ _ | refine z6q ?_ | refine z5q ?_ _)); exact BK320.out) hb); have n1_ := Aside0.mk (IsS80.below (by (try simp only [Int.add_zero]); repeat (first | (with_reducible first | exact HI321.out | apply IsS80.alloc | apply IsS80.drewN | apply IsS80.drew | apply IsS80.set_1 | apply IsS80.set_2 | refine IsS80.far ?_ NB321_320.out _) | exact HI321.out)) hb); have n2_ := Aside0.mk (z11q (by repeat (first | (with_reducible first | exact HB.out | apply z2q | apply z0q | apply z1q | refine z3q ?_ (IsS80.ge HI321.out) | refine z3q ?_ GE320.out) | exact HB.out)) hb); have n3_ := Aside0.mk (hbox); have n4_ := Aside0.mk ((by rw [hg]; exact (z12q (by repeat (first | (with_reducible first | exact HB.out | apply z2q | apply z0q | apply z1q | refine z3q ?_ (IsS80.ge HI321.out) | refine z3q ?_ GE320.out) | exact HB.out))) : w.heap.size ≤ gb330)); have n5_ := Aside0.mk ((by rw [hg]; exact (z12q (by repeat (first | (with_reducible first | exact HB.out | apply z2q | apply z0q | apply z1q | refine z3q ?_ (IsS80.ge HI321.out) | refine z3q ?_ GE320.out) | exact HB.out))) : w.heap.size ≤ gb330)); have n6_ := Aside0.mk ((by rw [hg]; exact Nat.ne_of_lt (z21q (g := gb320) (o := .cells #[.int .i64 0, .int .i64 0, .int .i64 0] 36 (0, 0)) (by (with_reducible repeat (first | refine z4q ?_ _ | refine z6q ?_ | refine z5q ?_ _)); exact BK320.out)) : gb320 ≠ gb330)); have n7_ := Aside0.mk ((by rw [hg]; exact Nat.ne_of_gt (z21q (g := gb320) (o := .cells #[.int .i64 0, .int .i64 0, .int .i64 0] 36 (0, 0)) (by (with_reducible repeat (first | refine z4q ?_ _ | refine z6q ?_ | refine z5q ?_ _)); exact BK320.out)) : gb330 ≠ gb320)); have n8_ := Aside0.mk ((by rw [hg]; exact Nat.ne_of_lt (IsS80.lt (show IsS80 w _ gb321 l0 t328 t329 from by (try simp only [Int.add_zero]); repeat (first | (with_reducible first | exact HI321.out | apply IsS80.alloc | apply IsS80.drewN | apply IsS80.drew | apply IsS80.set_1 | apply IsS80.set_2 | refine IsS80.far ?_ NB321_320.out _) | exact HI321.out))) : gb321 ≠ gb330)); have n9_ := Aside0.mk ((by rw [hg]; exact Nat.ne_of_gt (IsS80.lt (show IsS80 w _ gb321 l0 t328 t329 from by (try simp only [Int.add_zero]); repeat (first | (with_reducible first | exact HI321.out | apply IsS80.alloc | apply IsS80.drewN | apply IsS80.drew | apply IsS80.set_1 | apply IsS80.set_2 | refine IsS80.far ?_ NB321_320.out _) | exact HI321.out))) : gb330 ≠ gb321)); clear BK320; clear HI321; clear HB; have BK320 := n0_; have HI321 := n1_; have HB := n2_; have BK330 := n3_; have GW330 := n4_; have GE330 := n5_; have NB320_330 := n6_; have NB330_320 := n7_; have NB321_330 := n8_; have NB330_321 := n9_; clear n0_ n1_ n2_ n3_ n4_ n5_ n6_ n7_ n8_ n9_; clear hb hbox hg; have hnb28 := NB330_320.out; have hnc28 := NB320_330.out; have hnb29 := NB330_321.out; have hnc29 := NB321_330.out; have hcz30_0 : w27.cell? ⟨gb330, 0, none⟩ = some (.int .i64 0) := (z7q BK330.out 0).trans rfl; have hcz30_1 : w27.cell? ⟨gb330, 1, none⟩ = some (.int .i64 0) := (z7q BK330.out 1).trans rfl; have hcz30_2 : w27.cell? ⟨gb330, 2, none⟩ = some (.int .i64 0) := (z7q BK330.out 2).trans rfl; have hfz30_0 := z8q BK330.out 0; have hfz30_1 := z8q BK330.out 1; have hfz30_2 := z8q BK330.out 2) | ((with_reducible refine z9q (f := 71) rfl ?_); refine z17q (some 17) rfl rfl Tryd.func71 (by kernel_rfl) rfl #[.pointer (some ⟨gb321, 0, none⟩), .int .i64 60] rfl (by (try simp only [map_toArray, map_cons, map_nil]); first | done | rfl | (simp only [length_drop, length_take]; rfl)) ?_; (with_reducible refine (spec_l1Cur_pick.calls gb321 l0 t328 t329 60 t331 t332 t333 w _ ?side1 ?side2 A4.out).mono ?_); (case side1 => repeat (first | (with_reducible first | exact HI321.out | apply IsS80.alloc | apply IsS80.drewN | apply IsS80.drew | apply IsS80.set_1 | apply IsS80.set_2 | refine IsS80.far ?_ NB321_320.out _ | refine IsS80.far ?_ NB321_330.out _) | exact HI321.out)); (case side2 => repeat (first | (with_reducible first | exact HB.out | apply z2q | apply z0q | apply z1q | refine z3q ?_ (IsS80.ge HI321.out) | refine z3q ?_ GE320.out | refine z3q ?_ GE330.out) | exact HB.out)); rintro e w31 ⟨rfl, hi, hb, hk⟩; refine ⟨_, rfl, ?_⟩; have n0_ := Aside0.mk (KeepBut.blk hk (g' := gb320) (o := .cells #[.int .i64 0, .int .i64 0, .int .i64 0] 36 (0, 0)) (by (with_reducible repeat (first | refine z4q ?_ _ | refine z6q ?_ | refine z5q ?_ _)); refine z18q ?_ NB320_330.out _; (with_reducible repeat (first | refine z4q ?_ _ | refine z6q ?_ | refine z5q ?_ _)); refine z18q ?_ NB320_330.out _; (with_reducible repeat (first | refine z4q ?_ _ | refine z6q ?_ | refine z5q ?_ _)); refine z18q ?_ NB320_330.out _; (with_reducible repeat (first | refine z4q ?_ _ | refine z6q ?_ | refine z5q ?_ _)); exact BK320.out) NB320_321.out (by simp)); have n1_ := Aside0.mk (KeepBut.blk hk (g' := gb330) (o := .cells #[.int .i64 t325, .int .i64 t326, .int .i64 t327] 36 (0, 0)) (by (with_reducible repeat (first | refine z4q ?_ _ | refine z6q ?_ | refine z5q ?_ _)); refine z14q (cs := #[.int .i64 t325, .int .i64 t326, .int .i64 0]) ?_ 2 _ rfl; (with_reducible repeat (first | refine z4q ?_ _ | refine z6q ?_ | refine z5q ?_ _)); refine z14q (cs := #[.int .i64 t325, .int .i64 0, .int .i64 0]) ?_ 1 _ rfl; (with_reducible repeat (first | refine z4q ?_ _ | refine z6q ?_ | refine z5q ?_ _)); refine z14q (cs := #[.int .i64 0, .int .i64 0, .int .i64 0]) ?_ 0 _ rfl; (with_reducible repeat (first | refine z4q ?_ _ | refine z6q ?_ | refine z5q ?_ _)); exact BK330.out) NB330_321.out (by simp)); have n2_ := Aside0.mk (hb); have n3_ := Aside0.mk (hi); clear BK320; clear BK330; clear HB; clear HI321; have BK320 := n0_; have BK330 := n1_; have HB := n2_; have HI321 := n3_; clear n0_ n1_ n2_ n3_; (try clear hb); (try clear hb2); (try clear hk); (try clear hi)) | ((with_reducible refine z9q (f := 72) rfl ?_); refine z17q (some 20) rfl rfl Tryd.func72 (by kernel_rfl) rfl #[.pointer (some ⟨gb321, 0, none⟩), .int .i64 5] rfl (by (try simp only [map_toArray, map_cons, map_nil]); first | done | rfl | (simp only [length_drop, length_take]; rfl)) ?_; (with_reducible refine (spec_l1Cur_one.calls gb321 l0 t332 t333 5 false t335 t336 w _ ?side1 ?side2 A5.out).mono ?_); (case side1 => repeat (first | (with_reducible first | exact HI321.out | apply IsS80.alloc | apply IsS80.drewN | apply IsS80.drew | apply IsS80.set_1 | apply IsS80.set_2 | refine IsS80.far ?_ NB321_320.out _ | refine IsS80.far ?_ NB321_330.out _) | exact HI321.out)); (case side2 => repeat (first | (with_reducible first | exact HB.out | apply z2q | apply z0q | apply z1q | refine z3q ?_ (IsS80.ge HI321.out) | refine z3q ?_ GE320.out | refine z3q ?_ GE330.out) | exact HB.out)); rintro e w32 ⟨rfl, hi, hb, hk⟩; refine ⟨_, rfl, ?_⟩; have n0_ := Aside0.mk (KeepBut.blk hk (g' := gb320) (o := .cells #[.int .i64 0, .int .i64 0, .int .i64 0] 36 (0, 0)) (by (with_reducible repeat (first | refine z4q ?_ _ | refine z6q ?_ | refine z5q ?_ _)); exact BK320.out) NB320_321.out (by simp)); have n1_ := Aside0.mk (KeepBut.blk hk (g' := gb330) (o := .cells #[.int .i64 t325, .int .i64 t326, .int .i64 t327] 36 (0, 0)) (by (with_reducible repeat (first | refine z4q ?_ _ | refine z6q ?_ | refine z5q ?_ _)); exact BK330.out) NB330_321.out (by simp)); have n2_ := Aside0.mk (hb); have n3_ := Aside0.mk (hi); clear BK320; clear BK330; clear HB; clear HI321; have BK320 := n0_; have BK330 := n1_; have HB := n2_; have HI321 := n3_; clear n0_ n1_ n2_ n3_; (try clear hb); (try clear hb2); (try clear hk); (try clear hi)))
 have n0_ := Aside0.mk (z6q BK320.out)
 have n1_ := Aside0.mk (z6q BK330.out)
 have n2_ := Aside0.mk (IsS80.drew HI321.out)
 have n3_ := Aside0.mk (z1q HB.out)
 clear BK320
 clear BK330
 clear HI321
 clear HB
 have BK320 := n0_
 have BK330 := n1_
 have HI321 := n2_
 have HB := n3_
 clear n0_ n1_ n2_ n3_
 refine start_ (n := 6) (S := fun w' => w'.cell? ⟨gb330, 0, none⟩ = some (.int .i64 t325) ∧ w'.cell? ⟨gb330, 1, none⟩ = some (.int .i64 t326) ∧ w'.cell? ⟨gb330, 2, none⟩ = some (.int .i64 t327)) (ds := []) bt7_0 (by kernel_rfl) rfl rfl ⟨(z7q BK330.out 0).trans rfl, (z7q BK330.out 1).trans rfl, (z7q BK330.out 2).trans rfl⟩ (fun hHeld => ?_)
 generalize w32.drew = w33 at BK320 BK330 HI321 HB hHeld ⊢
 refine pure_ (i := 0) (N := some 24) (v := ?_) (a' := ?_) bt7_1 rfl rfl (by kernel_rfl) (fun _ _ _ h => h) (Or.inl ⟨by rfl, ?_⟩) ?_ ?_
 rotate_left
 ·intro w'
  go_simp
  with_reducible rfl
 rotate_left
 ·simp only [Act.put, setIfInBounds_toArray, set_cons_zero, set_cons_succ, i64_w, i32_w]
  rfl
 refine pure_ (i := 2) (N := some 26) (v := ?_) (a' := ?_) bt7_2 rfl rfl (by kernel_rfl) (fun _ _ _ h => h) (Or.inl ⟨by rfl, ?_⟩) ?_ ?_
 rotate_left
 ·intro w'
  go_simp
  with_reducible rfl
 rotate_left
 ·simp only [Act.put, setIfInBounds_toArray, set_cons_zero, set_cons_succ, i64_w, i32_w]
  rfl
 refine pure_ (i := 3) (N := some 2) (v := ?_) (a' := ?_) bt7_3 rfl rfl (by kernel_rfl) (fun _ _ _ h => h) (Or.inl ⟨by rfl, ?_⟩) ?_ ?_
 rotate_left
 ·intro w'
  go_simp
  with_reducible rfl
 rotate_left
 ·simp only [Act.put, setIfInBounds_toArray, set_cons_zero, set_cons_succ, i64_w, i32_w]
  rfl
 refine take_ (i := 1) (N := some 25) (v := ?_) (a' := ?_) #[true, true, true, true, false, false] rfl rfl (by kernel_rfl) (fun _ _ _ h => h) (Or.inl ⟨by rfl, ?_⟩) hHeld ?_ ?_
 rotate_left
 ·rintro w' ⟨s0, s1, s2⟩
  go_simp
  with_reducible rfl
 rotate_left
 ·simp only [Act.put, setIfInBounds_toArray, set_cons_zero, set_cons_succ, i64_w, i32_w]
  rfl
 refine one_ (i := 4) (N := none) #[true, true, true, true, true, false] rfl rfl (by kernel_rfl) (by decide) (fun K hK => ?_)
 have hs34 : w33.cell? ⟨gb320, 0, none⟩ = some (.int .i64 0) := (z7q BK320.out 0).trans rfl
 have hfs34 := z8q BK320.out 0
 have hns34_1 := NB330_320.out
 have hms34_1 := NB320_330.out
 have hs35 : w33.cell? ⟨gb320, 1, none⟩ = some (.int .i64 0) := (z7q BK320.out 1).trans rfl
 have hfs35 := z8q BK320.out 1
 have hns35_1 := NB330_320.out
 have hms35_1 := NB320_330.out
 have hs36 : w33.cell? ⟨gb320, 2, none⟩ = some (.int .i64 0) := (z7q BK320.out 2).trans rfl
 have hfs36 := z8q BK320.out 2
 have hns36_1 := NB330_320.out
 have hms36_1 := NB320_330.out
 refine skip_ (w1 := ?_) (by rfl) rfl ?_ ?_
 rotate_left
 ·go_simp
  rfl
 refine hK.out _ _ ⟨((z24q (p := ⟨gb320, _, none⟩) NB330_320.out _).trans (((z24q (p := ⟨gb320, _, none⟩) NB330_320.out _).trans (((z24q (p := ⟨gb320, _, none⟩) NB330_320.out _).trans (hHeld.1)))))), ((z24q (p := ⟨gb320, _, none⟩) NB330_320.out _).trans (((z24q (p := ⟨gb320, _, none⟩) NB330_320.out _).trans (((z24q (p := ⟨gb320, _, none⟩) NB330_320.out _).trans (hHeld.2.1)))))), ((z24q (p := ⟨gb320, _, none⟩) NB330_320.out _).trans (((z24q (p := ⟨gb320, _, none⟩) NB330_320.out _).trans (((z24q (p := ⟨gb320, _, none⟩) NB330_320.out _).trans (hHeld.2.2))))))⟩ (fun hHeld => ?_)
 clear hK K
 refine pure_ (i := 5) (N := some 4) (v := ?_) (a' := ?_) #[true, true, true, true, true, true] rfl rfl (by kernel_rfl) (fun _ _ _ h => h) (Or.inl ⟨by rfl, ?_⟩) ?_ ?_
 rotate_left
 ·intro w'
  go_simp
  with_reducible rfl
 rotate_left
 ·simp only [Act.put, setIfInBounds_toArray, set_cons_zero, set_cons_succ, i64_w, i32_w]
  rfl
 refine done_ (by kernel_rfl) ?_
 try go_wp2
 refine bodyPost_ret (results_list (rs := [.tmp 2, .cell 3 36, .tmp 4]) rfl (by simp) (.tmp (.cell gb320 36 #[.int .i64 t325, .int .i64 t326, .int .i64 t327] (0, 0) _ rfl (by (with_reducible repeat (first | refine z4q ?_ _ | refine z6q ?_ | refine z5q ?_ _)); refine z14q (cs := #[.int .i64 t325, .int .i64 t326, .int .i64 0]) ?_ 2 _ rfl; (with_reducible repeat (first | refine z4q ?_ _ | refine z6q ?_ | refine z5q ?_ _)); refine z14q (cs := #[.int .i64 t325, .int .i64 0, .int .i64 0]) ?_ 1 _ rfl; (with_reducible repeat (first | refine z4q ?_ _ | refine z6q ?_ | refine z5q ?_ _)); refine z14q (cs := #[.int .i64 0, .int .i64 0, .int .i64 0]) ?_ 0 _ rfl; (with_reducible repeat (first | refine z4q ?_ _ | refine z6q ?_ | refine z5q ?_ _)); exact BK320.out) Tryd.underlying36 rfl (by kernel_rfl) (.tmp .nil)))) rfl ?_
 exact ⟨by first | rfl | (simp [errW_none, errW_some] <;> rfl) | (simp [*, errW_none, errW_some] <;> rfl), by repeat (first | (with_reducible first | exact HB.out | apply z2q | apply z0q | apply z1q | refine z3q ?_ (IsS80.ge HI321.out) | refine z3q ?_ GE320.out | refine z3q ?_ GE330.out) | exact HB.out)⟩

set_option maxHeartbeats 8000000 in
set_option maxRecDepth 100000 in
theorem spec_DrawAddMonths.calls (A0 : Option Addr) (c0 : Nat) (l0 : List Int) (r1 : Int) (r2 : Int) (r3 : Int) (r4 : Int) (r5 : Int) (w : World) (hr0 : Kd.C (Kd.int .u8) w A0 l0.length l0) (hc0 : l0.length ≤ c0) (h : spec_DrawAddMonths.f l0 = some (r1, r2, r3, r4, r5)) :
  Calls Tryd.prog 27 #[.slice A0 l0.length c0] w fun e w' => e = .returned (.tuple #[.int .i64 r1, .agg #[.int .i64 r2, .int .i64 r3, .int .i64 r4], .int .i64 r5]) ∧ Below w.heap.size w w' := by
 have H : ((spec_l1Cur_cal.f l0 0 0).bind fun bt322 => ((spec_l1Cur_date.f l0 bt322.2.1 bt322.2.2).bind fun bt325 => ((spec_l1Cur_pick.f l0 bt325.2.2.2.1 bt325.2.2.2.2 60).bind fun bt331 => ((spec_l1Cur_one.f l0 bt331.2.1 bt331.2.2 5).bind fun bt334 => (if bt334.1 = true then ((spec_l1Cur_pick.f l0 bt334.2.1 bt334.2.2 200010).bind fun bt337 => (some (bt322.1, bt325.1, bt325.2.1, bt325.2.2.1, wrap64 (bt337.1 - 100005)))) else (some (bt322.1, bt325.1, bt325.2.1, bt325.2.2.1, wrap64 (bt331.1 - 25)))))))) = some (r1, r2, r3, r4, r5) := h
 replace H := Option.bind_eq_some_iff.mp H
 obtain ⟨⟨t322, t323, t324⟩, A20, H⟩ := H
 replace H : ((spec_l1Cur_date.f l0 t323 t324).bind fun bt325 => ((spec_l1Cur_pick.f l0 bt325.2.2.2.1 bt325.2.2.2.2 60).bind fun bt331 => ((spec_l1Cur_one.f l0 bt331.2.1 bt331.2.2 5).bind fun bt334 => (if bt334.1 = true then ((spec_l1Cur_pick.f l0 bt334.2.1 bt334.2.2 200010).bind fun bt337 => (some (t322, bt325.1, bt325.2.1, bt325.2.2.1, wrap64 (bt337.1 - 100005)))) else (some (t322, bt325.1, bt325.2.1, bt325.2.2.1, wrap64 (bt331.1 - 25))))))) = some (r1, r2, r3, r4, r5) := H
 have A2 := Aside0.mk A20
 clear A20
 replace H := Option.bind_eq_some_iff.mp H
 obtain ⟨⟨t325, t326, t327, t328, t329⟩, A30, H⟩ := H
 replace H : ((spec_l1Cur_pick.f l0 t328 t329 60).bind fun bt331 => ((spec_l1Cur_one.f l0 bt331.2.1 bt331.2.2 5).bind fun bt334 => (if bt334.1 = true then ((spec_l1Cur_pick.f l0 bt334.2.1 bt334.2.2 200010).bind fun bt337 => (some (t322, t325, t326, t327, wrap64 (bt337.1 - 100005)))) else (some (t322, t325, t326, t327, wrap64 (bt331.1 - 25)))))) = some (r1, r2, r3, r4, r5) := H
 have A3 := Aside0.mk A30
 clear A30
 replace H := Option.bind_eq_some_iff.mp H
 obtain ⟨⟨t331, t332, t333⟩, A40, H⟩ := H
 replace H : ((spec_l1Cur_one.f l0 t332 t333 5).bind fun bt334 => (if bt334.1 = true then ((spec_l1Cur_pick.f l0 bt334.2.1 bt334.2.2 200010).bind fun bt337 => (some (t322, t325, t326, t327, wrap64 (bt337.1 - 100005)))) else (some (t322, t325, t326, t327, wrap64 (t331 - 25))))) = some (r1, r2, r3, r4, r5) := H
 have A4 := Aside0.mk A40
 clear A40
 replace H := Option.bind_eq_some_iff.mp H
 obtain ⟨⟨t334, t335, t336⟩, A50, H⟩ := H
 replace H : (if t334 = true then ((spec_l1Cur_pick.f l0 t335 t336 200010).bind fun bt337 => (some (t322, t325, t326, t327, wrap64 (bt337.1 - 100005)))) else (some (t322, t325, t326, t327, wrap64 (t331 - 25)))) = some (r1, r2, r3, r4, r5) := H
 have A5 := Aside0.mk A50
 clear A50
 by_cases c6 : t334 = true
 ·exact spec_DrawAddMonths.calls_p1 A0 c0 l0 r1 r2 r3 r4 r5 w hr0 hc0 t322 t323 t324 t325 t326 t327 t328 t329 t331 t332 t333 t334 t335 t336 A2 A3 A4 A5 c6 H
 ·exact spec_DrawAddMonths.calls_p2 A0 c0 l0 r1 r2 r3 r4 r5 w hr0 hc0 t322 t323 t324 t325 t326 t327 t328 t329 t331 t332 t333 t334 t335 t336 A2 A3 A4 A5 c6 H

/-! ### impl_AddMonths: function 28 -/

def impl_AddMonths.j0 : Nat → Int → Int → Bool → Int → Int → Int → Option (Int × Int × Int)
 | 0, _, _, _, _, _, _ => none
 | k + 1, x0, x2, x21, x341000, x341001, x341002 => if x21 = true then (some (0, 0, 0)) else ((impl_floorDiv_int.f (wrap64 ((wrap64 ((wrap64 ((wrap64 (x341000 * 12)) + x341001)) - 1)) + x2)) 12).bind fun t343 => ((impl_floorMod_int.f (wrap64 ((wrap64 ((wrap64 ((wrap64 (x341000 * 12)) + x341001)) - 1)) + x2)) 12).bind fun t344 => ((impl_goodYear.f x0 t343).bind fun t345 => (if t345 = true then ((impl_monthDays.f x0 t343 (wrap64 (t344 + 1))).bind fun t346 => (some (t343, wrap64 (t344 + 1), mn x341002 t346))) else (some (0, 0, 0))))))

def impl_AddMonths.f (k : Nat) (a0 : Int) (a1_0 : Int) (a1_1 : Int) (a1_2 : Int) (a2 : Int) : Option (Int × Int × Int) := (impl_isDate.f a0 a1_0 a1_1 a1_2).bind fun t342 => (if t342 = true then (if a2 < (-100000) then (impl_AddMonths.j0 k a0 a2 true a1_0 a1_1 a1_2) else (impl_AddMonths.j0 k a0 a2 (decide (a2 > 100000)) a1_0 a1_1 a1_2)) else (impl_AddMonths.j0 k a0 a2 true a1_0 a1_1 a1_2))

def impl_AddMonths.T8 : Bool × List (List Nat × List Nat) := (true, [([], []), ([], []), ([], []), ([2], [2]), ([], []), ([], []), ([], []), ([4, 5, 6], [4, 5, 6]), ([3, 7], [3, 7]), ([0, 1, 8], [0, 1, 8]), ([9, 7, 0, 1, 2, 3, 4, 5, 6, 7, 8, 9], [9])])

def impl_AddMonths.B8 : List Nat := [0, 0, 0, 4, 0, 0, 0, 112, 252, 511, 1023]

theorem impl_AddMonths.tab8 : rtab .any (opsOf Tryd.f28 8) = impl_AddMonths.T8 := by kernel_rfl

theorem impl_AddMonths.bits8 : waitsOk impl_AddMonths.T8.2 impl_AddMonths.B8 = true := by kernel_rfl

set_option maxHeartbeats 8000000 in
set_option maxRecDepth 100000 in
theorem impl_AddMonths.calls_p1 (k : Nat) (a0 : Int) (a1_0 : Int) (a1_1 : Int) (a1_2 : Int) (a2 : Int) (r1 : Int) (r2 : Int) (r3 : Int) (w : World) (hT : Tab w) (H : ((impl_isDate.f a0 a1_0 a1_1 a1_2).bind fun t342 => (if t342 = true then (if a2 < (-100000) then (impl_AddMonths.j0 k a0 a2 true a1_0 a1_1 a1_2) else (impl_AddMonths.j0 k a0 a2 (decide (a2 > 100000)) a1_0 a1_1 a1_2)) else (impl_AddMonths.j0 k a0 a2 true a1_0 a1_1 a1_2))) = some (r1, r2, r3)) :
  Calls Tryd.prog 28 #[.int .i64 a0, .agg #[.int .i64 a1_0, .int .i64 a1_1, .int .i64 a1_2], .int .i64 a2] w fun e w' => e = .returned (.agg #[.int .i64 r1, .int .i64 r2, .int .i64 r3]) ∧ Below w.heap.size w w' := by
 have hu36 := Tryd.underlying36
 have HB := Aside0.mk (Below.refl w.heap.size w)
 have HC4 := Aside0.mk H
 clear H
 go_enter Tryd.func28, Tryd.ntmps28
 go_upto_region 1 with (first | ((with_reducible refine z22q (N := 4) rfl ?_); refine z20q ?hg (N := 4) ?hd (cs := #[.int .i64 a1_0, .int .i64 a1_1, .int .i64 a1_2]) (t := 36) ?hr ?_; (case hd => rfl); (case hg => rfl); (case hr => first | (go_simp; done) | (go_simp; rfl)); intro gb340 hg w5 hbox hb; have n0_ := Aside0.mk (z11q (by repeat (first | (with_reducible first | exact HB.out | apply z2q | apply z0q | apply z1q) | exact HB.out)) hb); have n1_ := Aside0.mk (hbox); have n2_ := Aside0.mk ((by rw [hg]; exact (z12q (by repeat (first | (with_reducible first | exact HB.out | apply z2q | apply z0q | apply z1q) | exact HB.out))) : w.heap.size ≤ gb340)); have n3_ := Aside0.mk ((by rw [hg]; exact (z12q (by repeat (first | (with_reducible first | exact HB.out | apply z2q | apply z0q | apply z1q) | exact HB.out))) : w.heap.size ≤ gb340)); clear HB; have HB := n0_; have BK340 := n1_; have GW340 := n2_; have GE340 := n3_; clear n0_ n1_ n2_ n3_; clear hb hbox hg) | ((with_reducible refine z22q (N := 6) rfl ?_); refine z20q ?hg (N := 6) ?hd (cs := #[.int .i64 0, .int .i64 0, .int .i64 0]) (t := 36) ?hr ?_; (case hd => rfl); (case hg => rfl); (case hr => first | (go_simp; done) | (go_simp; rfl)); intro gb341 hg w6 hbox hb; have n0_ := Aside0.mk (z13q (g := gb340) (o := .cells #[.int .i64 a1_0, .int .i64 a1_1, .int .i64 a1_2] 36 (0, 0)) (by (with_reducible repeat (first | refine z4q ?_ _ | refine z6q ?_ | refine z5q ?_ _)); exact BK340.out) hb); have n1_ := Aside0.mk (z11q (by repeat (first | (with_reducible first | exact HB.out | apply z2q | apply z0q | apply z1q | refine z3q ?_ GE340.out) | exact HB.out)) hb); have n2_ := Aside0.mk (hbox); have n3_ := Aside0.mk ((by rw [hg]; exact (z12q (by repeat (first | (with_reducible first | exact HB.out | apply z2q | apply z0q | apply z1q | refine z3q ?_ GE340.out) | exact HB.out))) : w.heap.size ≤ gb341)); have n4_ := Aside0.mk ((by rw [hg]; exact (z12q (by repeat (first | (with_reducible first | exact HB.out | apply z2q | apply z0q | apply z1q | refine z3q ?_ GE340.out) | exact HB.out))) : w.heap.size ≤ gb341)); have n5_ := Aside0.mk ((by rw [hg]; exact Nat.ne_of_lt (z21q (g := gb340) (o := .cells #[.int .i64 a1_0, .int .i64 a1_1, .int .i64 a1_2] 36 (0, 0)) (by (with_reducible repeat (first | refine z4q ?_ _ | refine z6q ?_ | refine z5q ?_ _)); exact BK340.out)) : gb340 ≠ gb341)); have n6_ := Aside0.mk ((by rw [hg]; exact Nat.ne_of_gt (z21q (g := gb340) (o := .cells #[.int .i64 a1_0, .int .i64 a1_1, .int .i64 a1_2] 36 (0, 0)) (by (with_reducible repeat (first | refine z4q ?_ _ | refine z6q ?_ | refine z5q ?_ _)); exact BK340.out)) : gb341 ≠ gb340)); clear BK340; clear HB; have BK340 := n0_; have HB := n1_; have BK341 := n2_; have GW341 := n3_; have GE341 := n4_; have NB340_341 := n5_; have NB341_340 := n6_; clear n0_ n1_ n2_ n3_ n4_ n5_ n6_; clear hb hbox hg))
 (try simp only [Act.put, setIfInBounds_toArray, set_cons_zero, set_cons_succ])
 go_cut [21] (fun v21 wc => ∃ (kq : Nat) (x21_3 : Bool), v21 = .bool x21_3 ∧ Aside0 (impl_AddMonths.j0 kq a0 a2 x21_3 a1_0 a1_1 a1_2 = some (r1, r2, r3)) ∧ Aside0 (kq ≤ k) ∧ Aside0 (wc.heap[gb340]? = some (.cells #[.int .i64 a1_0, .int .i64 a1_1, .int .i64 a1_2] 36 (0, 0))) ∧ Aside0 (wc.heap[gb341]? = some (.cells #[.int .i64 0, .int .i64 0, .int .i64 0] 36 (0, 0))) ∧ Aside0 (Below w.heap.size w wc))
 case first =>
  have H := HC4.out
  clear HC4
  replace H := Option.bind_eq_some_iff.mp H
  obtain ⟨t342, A70, H⟩ := H
  replace H : (if t342 = true then (if a2 < (-100000) then (impl_AddMonths.j0 k a0 a2 true a1_0 a1_1 a1_2) else (impl_AddMonths.j0 k a0 a2 (decide (a2 > 100000)) a1_0 a1_1 a1_2)) else (impl_AddMonths.j0 k a0 a2 true a1_0 a1_1 a1_2)) = some (r1, r2, r3) := H
  have A7 := Aside0.mk A70
  clear A70
  by_cases c8 : t342 = true
  ·subst c8
   have H1 : (if a2 < (-100000) then (impl_AddMonths.j0 k a0 a2 true a1_0 a1_1 a1_2) else (impl_AddMonths.j0 k a0 a2 (decide (a2 > 100000)) a1_0 a1_1 a1_2)) = some (r1, r2, r3) := by rw [if_pos rfl] at H; exact H
   clear H
   have H := H1
   clear H1
   by_cases c9 : a2 < (-100000)
   ·rw [if_pos c9] at H
    have c9b0 : decide (a2 < (-100000)) = true := decide_eq_true c9
    clear c9
    (first | rw [c9b0] | (simp only [i64_w, i32_w]; rw [c9b0]) | skip)
    have H' := Aside0.mk H
    clear H
    have hnb10 := NB340_341.out
    have hnc10 := NB341_340.out
    have hcz11_0 : w6.cell? ⟨gb340, 0, none⟩ = some (.int .i64 a1_0) := (z7q BK340.out 0).trans rfl
    have hcz11_1 : w6.cell? ⟨gb340, 1, none⟩ = some (.int .i64 a1_1) := (z7q BK340.out 1).trans rfl
    have hcz11_2 : w6.cell? ⟨gb340, 2, none⟩ = some (.int .i64 a1_2) := (z7q BK340.out 2).trans rfl
    have hfz11_0 := z8q BK340.out 0
    have hfz11_1 := z8q BK340.out 1
    have hfz11_2 := z8q BK340.out 2
    go_wp2_with (first | ((with_reducible refine z9q (f := 60) rfl ?_); refine z17q (some 12) rfl rfl Tryd.func60 (by kernel_rfl) rfl #[.int .i64 a0, .agg #[.int .i64 a1_0, .int .i64 a1_1, .int .i64 a1_2]] rfl (by (try simp only [map_toArray, map_cons, map_nil]); first | done | rfl | (simp only [length_drop, length_take]; rfl)) ?_; (with_reducible refine (impl_isDate.calls a0 a1_0 a1_1 a1_2 true _ (hT.below (by repeat (first | exact HB.out | exact Below.refl _ _ | apply z2q | apply z0q | apply z1q | refine z3q ?_ GE340.out | refine z3q ?_ GE341.out))) A7.out).mono ?_); rintro e w12 ⟨rfl, hb⟩; refine ⟨_, rfl, ?_⟩; have n0_ := Aside0.mk (z13q (g := gb340) (o := .cells #[.int .i64 a1_0, .int .i64 a1_1, .int .i64 a1_2] 36 (0, 0)) (by (with_reducible repeat (first | refine z4q ?_ _ | refine z6q ?_ | refine z5q ?_ _)); exact BK340.out) hb); have n1_ := Aside0.mk (z13q (g := gb341) (o := .cells #[.int .i64 0, .int .i64 0, .int .i64 0] 36 (0, 0)) (by (with_reducible repeat (first | refine z4q ?_ _ | refine z6q ?_ | refine z5q ?_ _)); exact BK341.out) hb); have n2_ := Aside0.mk (z11q (by repeat (first | (with_reducible first | exact HB.out | apply z2q | apply z0q | apply z1q | refine z3q ?_ GE340.out | refine z3q ?_ GE341.out) | exact HB.out)) hb); clear BK340; clear BK341; clear HB; have BK340 := n0_; have BK341 := n1_; have HB := n2_; clear n0_ n1_ n2_; (try clear hb); (try clear hb2); (try clear hk); (try clear hi)))
    go_meet
    case rel => exact ⟨_, (true), (by first | rfl | (simp; done) | (simp [*]; done) | (simp; unfold wrap64; omega)), H', ⟨by first | omega | exact Nat.le_refl _⟩, ⟨by (with_reducible repeat (first | refine z4q ?_ _ | refine z6q ?_ | refine z5q ?_ _)); exact BK340.out⟩, ⟨by (with_reducible repeat (first | refine z4q ?_ _ | refine z6q ?_ | refine z5q ?_ _)); exact BK341.out⟩, ⟨by repeat (first | (with_reducible first | exact HB.out | apply z2q | apply z0q | apply z1q | refine z3q ?_ GE340.out | refine z3q ?_ GE341.out) | exact HB.out)⟩⟩
   ·rw [if_neg c9] at H
    have c9b0 : decide (a2 < (-100000)) = false := decide_eq_false c9
    clear c9
    (first | rw [c9b0] | (simp only [i64_w, i32_w]; rw [c9b0]) | skip)
    have H' := Aside0.mk H
    clear H
    have hnb13 := NB340_341.out
    have hnc13 := NB341_340.out
    have hcz14_0 : w6.cell? ⟨gb340, 0, none⟩ = some (.int .i64 a1_0) := (z7q BK340.out 0).trans rfl
    have hcz14_1 : w6.cell? ⟨gb340, 1, none⟩ = some (.int .i64 a1_1) := (z7q BK340.out 1).trans rfl
    have hcz14_2 : w6.cell? ⟨gb340, 2, none⟩ = some (.int .i64 a1_2) := (z7q BK340.out 2).trans rfl
    have hfz14_0 := z8q BK340.out 0
    have hfz14_1 := z8q BK340.out 1
    have hfz14_2 := z8q BK340.out 2
    go_wp2_with (first | ((with_reducible refine z9q (f := 60) rfl ?_); refine z17q (some 12) rfl rfl Tryd.func60 (by kernel_rfl) rfl #[.int .i64 a0, .agg #[.int .i64 a1_0, .int .i64 a1_1, .int .i64 a1_2]] rfl (by (try simp only [map_toArray, map_cons, map_nil]); first | done | rfl | (simp only [length_drop, length_take]; rfl)) ?_; (with_reducible refine (impl_isDate.calls a0 a1_0 a1_1 a1_2 true _ (hT.below (by repeat (first | exact HB.out | exact Below.refl _ _ | apply z2q | apply z0q | apply z1q | refine z3q ?_ GE340.out | refine z3q ?_ GE341.out))) A7.out).mono ?_); rintro e w15 ⟨rfl, hb⟩; refine ⟨_, rfl, ?_⟩; have n0_ := Aside0.mk (z13q (g := gb340) (o := .cells #[.int .i64 a1_0, .int .i64 a1_1, .int .i64 a1_2] 36 (0, 0)) (by (with_reducible repeat (first | refine z4q ?_ _ | refine z6q ?_ | refine z5q ?_ _)); exact BK340.out) hb); have n1_ := Aside0.mk (z13q (g := gb341) (o := .cells #[.int .i64 0, .int .i64 0, .int .i64 0] 36 (0, 0)) (by (with_reducible repeat (first | refine z4q ?_ _ | refine z6q ?_ | refine z5q ?_ _)); exact BK341.out) hb); have n2_ := Aside0.mk (z11q (by repeat (first | (with_reducible first | exact HB.out | apply z2q | apply z0q | apply z1q | refine z3q ?_ GE340.out | refine z3q ?_ GE341.out) | exact HB.out)) hb); clear BK340; clear BK341; clear HB; have BK340 := n0_; have BK341 := n1_; have HB := n2_; clear n0_ n1_ n2_; (try clear hb); (try clear hb2); (try clear hk); (try clear hi)))
    go_meet
    case rel => exact ⟨_, (decide (a2 > 100000)), (by first | rfl | (simp; done) | (simp [*]; done) | (simp; unfold wrap64; omega)), H', ⟨by first | omega | exact Nat.le_refl _⟩, ⟨by (with_reducible repeat (first | refine z4q ?_ _ | refine z6q ?_ | refine z5q ?_ _)); exact BK340.out⟩, ⟨by (with_reducible repeat (first | refine z4q ?_ _ | refine z6q ?_ | refine z5q ?_ _)); exact BK341.out⟩, ⟨by repeat (first | (with_reducible first | exact HB.out | apply z2q | apply z0q | apply z1q | refine z3q ?_ GE340.out | refine z3q ?_ GE341.out) | exact HB.out)⟩⟩
  ·replace c8 := Bool.eq_false_iff.mpr c8
   subst c8
   have H1 : (impl_AddMonths.j0 k a0 a2 true a1_0 a1_1 a1_2) = some (r1, r2, r3) := by rw [if_neg (show ¬ (false = true) by decide)] at H; exact H
   clear H
   have H := H1
   clear H1
   have H' := Aside0.mk H
   clear H
   have hnb16 := NB340_341.out
   have hnc16 := NB341_340.out
   have hcz17_0 : w6.cell? ⟨gb340, 0, none⟩ = some (.int .i64 a1_0) := (z7q BK340.out 0).trans rfl
   have hcz17_1 : w6.cell? ⟨gb340, 1, none⟩ = some (.int .i64 a1_1) := (z7q BK340.out 1).trans rfl
   have hcz17_2 : w6.cell? ⟨gb340, 2, none⟩ = some (.int .i64 a1_2) := (z7q BK340.out 2).trans rfl
   have hfz17_0 := z8q BK340.out 0
   have hfz17_1 := z8q BK340.out 1
   have hfz17_2 := z8q BK340.out 2
   go_wp2_with (first | ((with_reducible refine z9q (f := 60) rfl ?_); refine z17q (some 12) rfl rfl Tryd.func60 (by kernel_rfl) rfl #[.int .i64 a0, .agg #[.int .i64 a1_0, .int .i64 a1_1, .int .i64 a1_2]] rfl (by (try simp only [map_toArray, map_cons, map_nil]); first | done | rfl | (simp only [length_drop, length_take]; rfl)) ?_; (with_reducible refine (impl_isDate.calls a0 a1_0 a1_1 a1_2 false _ (hT.below (by repeat (first | exact HB.out | exact Below.refl _ _ | apply z2q | apply z0q | apply z1q | refine z3q ?_ GE340.out | refine z3q ?_ GE341.out))) A7.out).mono ?_); rintro e w18 ⟨rfl, hb⟩; refine ⟨_, rfl, ?_⟩; have n0_ := Aside0.mk (z13q (g := gb340) (o := .cells #[.int .i64 a1_0, .int .i64 a1_1, .int .i64 a1_2] 36 (0, 0)) (by (with_reducible repeat (first | refine z4q ?_ _ | refine z6q ?_ | refine z5q ?_ _)); exact BK340.out) hb); have n1_ := Aside0.mk (z13q (g := gb341) (o := .cells #[.int .i64 0, .int .i64 0, .int .i64 0] 36 (0, 0)) (by (with_reducible repeat (first | refine z4q ?_ _ | refine z6q ?_ | refine z5q ?_ _)); exact BK341.out) hb); have n2_ := Aside0.mk (z11q (by repeat (first | (with_reducible first | exact HB.out | apply z2q | apply z0q | apply z1q | refine z3q ?_ GE340.out | refine z3q ?_ GE341.out) | exact HB.out)) hb); clear BK340; clear BK341; clear HB; have BK340 := n0_; have BK341 := n1_; have HB := n2_; clear n0_ n1_ n2_; (try clear hb); (try clear hb2); (try clear hk); (try clear hi)))
   go_meet
   case rel => exact ⟨_, (true), (by first | rfl | (simp; done) | (simp [*]; done) | (simp; unfold wrap64; omega)), H', ⟨by first | omega | exact Nat.le_refl _⟩, ⟨by (with_reducible repeat (first | refine z4q ?_ _ | refine z6q ?_ | refine z5q ?_ _)); exact BK340.out⟩, ⟨by (with_reducible repeat (first | refine z4q ?_ _ | refine z6q ?_ | refine z5q ?_ _)); exact BK341.out⟩, ⟨by repeat (first | (with_reducible first | exact HB.out | apply z2q | apply z0q | apply z1q | refine z3q ?_ GE340.out | refine z3q ?_ GE341.out) | exact HB.out)⟩⟩
 case rest =>
  clear HC4
  try clear c1
  try clear c2
  try clear p2
  try clear c6
  try clear c8
  try clear c9
  try clear c9b0
  try clear c10
  try clear c13
  try clear c16
  try clear hcz11_0
  try clear hcz11_1
  try clear hcz11_2
  try clear hcz14_0
  try clear hcz14_1
  try clear hcz14_2
  try clear hcz17_0
  try clear hcz17_1
  try clear hcz17_2
  try clear hfz11_0
  try clear hfz11_1
  try clear hfz11_2
  try clear hfz14_0
  try clear hfz14_1
  try clear hfz14_2
  try clear hfz17_0
  try clear hfz17_1
  try clear hfz17_2
  obtain ⟨kq, x21_3, rfl, HA, HJ3, BK340, BK341, HB⟩ := hcut
  cases kq with
  | zero => exact absurd HA.out (by simp [impl_AddMonths.j0])
  | succ kj3 =>
   have H := HA.out
   clear HA
   simp only [impl_AddMonths.j0] at H
   by_cases c19 : x21_3 = true
   ·subst c19
    have H1 : (some (0, 0, 0)) = some (r1, r2, r3) := by rw [if_pos rfl] at H; exact H
    clear H
    have H := H1
    clear H1
    simp only [Option.some.injEq, Prod.mk.injEq] at H
    obtain ⟨rfl, rfl, rfl⟩ := H
    have hnb20 := NB341_340.out
    have hnc20 := NB340_341.out
    have hcz21_0 : wc.cell? ⟨gb341, 0, none⟩ = some (.int .i64 0) := (z7q BK341.out 0).trans rfl
    have hcz21_1 : wc.cell? ⟨gb341, 1, none⟩ = some (.int .i64 0) := (z7q BK341.out 1).trans rfl
    have hcz21_2 : wc.cell? ⟨gb341, 2, none⟩ = some (.int .i64 0) := (z7q BK341.out 2).trans rfl
    have hfz21_0 := z8q BK341.out 0
    have hfz21_1 := z8q BK341.out 1
    have hfz21_2 := z8q BK341.out 2
    go_wp2
    refine bodyPost_ret (results_cell_row rfl _ _ gb341 36 #[.int .i64 0, .int .i64 0, .int .i64 0] (0, 0) _ rfl (by (with_reducible repeat (first | refine z4q ?_ _ | refine z6q ?_ | refine z5q ?_ _)); refine z14q (cs := #[.int .i64 0, .int .i64 0, .int .i64 0]) ?_ 2 _ rfl; (with_reducible repeat (first | refine z4q ?_ _ | refine z6q ?_ | refine z5q ?_ _)); refine z14q (cs := #[.int .i64 0, .int .i64 0, .int .i64 0]) ?_ 1 _ rfl; (with_reducible repeat (first | refine z4q ?_ _ | refine z6q ?_ | refine z5q ?_ _)); refine z14q (cs := #[.int .i64 0, .int .i64 0, .int .i64 0]) ?_ 0 _ rfl; (with_reducible repeat (first | refine z4q ?_ _ | refine z6q ?_ | refine z5q ?_ _)); exact BK341.out) Tryd.underlying36 rfl (by kernel_rfl)) rfl ?_
    exact ⟨by first | rfl | (simp [errW_none, errW_some] <;> rfl) | (simp [*, errW_none, errW_some] <;> rfl), by repeat (first | (with_reducible first | exact HB.out | apply z2q | apply z0q | apply z1q | refine z3q ?_ GE340.out | refine z3q ?_ GE341.out) | exact HB.out)⟩
   ·replace c19 := Bool.eq_false_iff.mpr c19
    subst c19
    have H1 : ((impl_floorDiv_int.f (wrap64 ((wrap64 ((wrap64 ((wrap64 (a1_0 * 12)) + a1_1)) - 1)) + a2)) 12).bind fun t343 => ((impl_floorMod_int.f (wrap64 ((wrap64 ((wrap64 ((wrap64 (a1_0 * 12)) + a1_1)) - 1)) + a2)) 12).bind fun t344 => ((impl_goodYear.f a0 t343).bind fun t345 => (if t345 = true then ((impl_monthDays.f a0 t343 (wrap64 (t344 + 1))).bind fun t346 => (some (t343, wrap64 (t344 + 1), mn a1_2 t346))) else (some (0, 0, 0)))))) = some (r1, r2, r3) := by rw [if_neg (show ¬ (false = true) by decide)] at H; exact H
    clear H
    have H := H1
    clear H1
    replace H := Option.bind_eq_some_iff.mp H
    obtain ⟨t343, A220, H⟩ := H
    replace H : ((impl_floorMod_int.f (wrap64 ((wrap64 ((wrap64 ((wrap64 (a1_0 * 12)) + a1_1)) - 1)) + a2)) 12).bind fun t344 => ((impl_goodYear.f a0 t343).bind fun t345 => (if t345 = true then ((impl_monthDays.f a0 t343 (wrap64 (t344 + 1))).bind fun t346 => (some (t343, wrap64 (t344 + 1), mn a1_2 t346))) else (some (0, 0, 0))))) = some (r1, r2, r3) := H
    have A22 := Aside0.mk A220
    clear A220
    replace H := Option.bind_eq_some_iff.mp H
    obtain ⟨t344, A230, H⟩ := H
    replace H : ((impl_goodYear.f a0 t343).bind fun t345 => (if t345 = true then ((impl_monthDays.f a0 t343 (wrap64 (t344 + 1))).bind fun t346 => (some (t343, wrap64 (t344 + 1), mn a1_2 t346))) else (some (0, 0, 0)))) = some (r1, r2, r3) := H
    have A23 := Aside0.mk A230
    clear A230
    replace H := Option.bind_eq_some_iff.mp H
    obtain ⟨t345, A240, H⟩ := H
    replace H : (if t345 = true then ((impl_monthDays.f a0 t343 (wrap64 (t344 + 1))).bind fun t346 => (some (t343, wrap64 (t344 + 1), mn a1_2 t346))) else (some (0, 0, 0))) = some (r1, r2, r3) := H
    have A24 := Aside0.mk A240
    clear A240
    by_cases c25 : t345 = true
    ·subst c25
     have H1 : ((impl_monthDays.f a0 t343 (wrap64 (t344 + 1))).bind fun t346 => (some (t343, wrap64 (t344 + 1), mn a1_2 t346))) = some (r1, r2, r3) := by rw [if_pos rfl] at H; exact H
     clear H
     have H := H1
     clear H1
     replace H := Option.bind_eq_some_iff.mp H
     obtain ⟨t346, A260, H⟩ := H
     replace H : (some (t343, wrap64 (t344 + 1), mn a1_2 t346)) = some (r1, r2, r3) := H
     have A26 := Aside0.mk A260
     clear A260
     obtain ⟨ji27, hji27⟩ : ∃ j_ : Int, (mn a1_2 t346) = j_ := ⟨_, rfl⟩
     replace H : (some (t343, wrap64 (t344 + 1), ji27)) = some (r1, r2, r3) := by first | (rw [hji27] at H; exact H) | (simp only [hji27] at H ⊢; exact H)
     (try rw [hji27] at A22)
     (try rw [hji27] at A23)
     (try rw [hji27] at A24)
     (try rw [hji27] at A26)
     have hji27_ : (if t346 < a1_2 then t346 else a1_2) = ji27 := hji27
     simp only [Option.some.injEq, Prod.mk.injEq] at H
     obtain ⟨rfl, rfl, rfl⟩ := H
     have hnb28 := NB340_341.out
     have hnc28 := NB341_340.out
     have hcz29_0 : wc.cell? ⟨gb340, 0, none⟩ = some (.int .i64 a1_0) := (z7q BK340.out 0).trans rfl
     have hcz29_1 : wc.cell? ⟨gb340, 1, none⟩ = some (.int .i64 a1_1) := (z7q BK340.out 1).trans rfl
     have hcz29_2 : wc.cell? ⟨gb340, 2, none⟩ = some (.int .i64 a1_2) := (z7q BK340.out 2).trans rfl
     have hfz29_0 := z8q BK340.out 0
     have hfz29_1 := z8q BK340.out 1
     have hfz29_2 := z8q BK340.out 2
     try go_wp2_with (first | ((with_reducible refine z9q (f := 73) rfl ?_); refine z17q (some 33) rfl rfl Tryd.func73 (by kernel_rfl) rfl #[.int .i64 (wrap64 ((wrap64 ((wrap64 ((wrap64 (a1_0 * 12)) + a1_1)) - 1)) + a2)), .int .i64 12] rfl (by (try simp only [map_toArray, map_cons, map_nil]); first | done | rfl | (simp only [length_drop, length_take]; rfl)) ?_; (with_reducible refine (impl_floorDiv_int.calls (wrap64 ((wrap64 ((wrap64 ((wrap64 (a1_0 * 12)) + a1_1)) - 1)) + a2)) 12 t343 _ A22.out).mono ?_); rintro e w' ⟨rfl, ⟨nd, rfl⟩⟩; refine ⟨_, rfl, ?_⟩; (try (rw [drewN_self wc]; generalize hq_ : World.drewN wc _ = wc; have n0_ : Aside0 (wc.heap[gb340]? = some (.cells #[.int .i64 a1_0, .int .i64 a1_1, .int .i64 a1_2] 36 (0, 0))) := ⟨by rw [← hq_]; exact (by (with_reducible repeat (first | refine z4q ?_ _ | refine z6q ?_ | refine z5q ?_ _)); exact BK340.out)⟩; have n1_ : Aside0 (wc.heap[gb341]? = some (.cells #[.int .i64 0, .int .i64 0, .int .i64 0] 36 (0, 0))) := ⟨by rw [← hq_]; exact (by (with_reducible repeat (first | refine z4q ?_ _ | refine z6q ?_ | refine z5q ?_ _)); exact BK341.out)⟩; have n2_ : Aside0 (Below w.heap.size w wc) := ⟨by rw [← hq_]; exact (by repeat (first | (with_reducible first | exact HB.out | apply z2q | apply z0q | apply z1q | refine z3q ?_ GE340.out | refine z3q ?_ GE341.out) | exact HB.out))⟩; clear BK340 BK341 HB hq_; have BK340 := n0_; have BK341 := n1_; have HB := n2_; clear n0_ n1_ n2_))) | ((with_reducible refine z9q (f := 58) rfl ?_); refine z17q (some 35) rfl rfl Tryd.func58 (by kernel_rfl) rfl #[.int .i64 (wrap64 ((wrap64 ((wrap64 ((wrap64 (a1_0 * 12)) + a1_1)) - 1)) + a2)), .int .i64 12] rfl (by (try simp only [map_toArray, map_cons, map_nil]); first | done | rfl | (simp only [length_drop, length_take]; rfl)) ?_; (with_reducible refine (impl_floorMod_int.calls (wrap64 ((wrap64 ((wrap64 ((wrap64 (a1_0 * 12)) + a1_1)) - 1)) + a2)) 12 t344 _ A23.out).mono ?_); rintro e w' ⟨rfl, ⟨nd, rfl⟩⟩; refine ⟨_, rfl, ?_⟩; (try (rw [drewN_self wc]; generalize hq_ : World.drewN wc _ = wc; have n0_ : Aside0 (wc.heap[gb340]? = some (.cells #[.int .i64 a1_0, .int .i64 a1_1, .int .i64 a1_2] 36 (0, 0))) := ⟨by rw [← hq_]; exact (by (with_reducible repeat (first | refine z4q ?_ _ | refine z6q ?_ | refine z5q ?_ _)); exact BK340.out)⟩; have n1_ : Aside0 (wc.heap[gb341]? = some (.cells #[.int .i64 0, .int .i64 0, .int .i64 0] 36 (0, 0))) := ⟨by rw [← hq_]; exact (by (with_reducible repeat (first | refine z4q ?_ _ | refine z6q ?_ | refine z5q ?_ _)); exact BK341.out)⟩; have n2_ : Aside0 (Below w.heap.size w wc) := ⟨by rw [← hq_]; exact (by repeat (first | (with_reducible first | exact HB.out | apply z2q | apply z0q | apply z1q | refine z3q ?_ GE340.out | refine z3q ?_ GE341.out) | exact HB.out))⟩; clear BK340 BK341 HB hq_; have BK340 := n0_; have BK341 := n1_; have HB := n2_; clear n0_ n1_ n2_))) | ((with_reducible refine z9q (f := 63) rfl ?_); refine z17q (some 39) rfl rfl Tryd.func63 (by kernel_rfl) rfl #[.int .i64 a0, .int .i64 t343] rfl (by (try simp only [map_toArray, map_cons, map_nil]); first | done | rfl | (simp only [length_drop, length_take]; rfl)) ?_; (with_reducible refine (impl_goodYear.calls a0 t343 true _ A24.out).mono ?_); rintro e w' ⟨rfl, ⟨nd, rfl⟩⟩; refine ⟨_, rfl, ?_⟩; (try (rw [drewN_self wc]; generalize hq_ : World.drewN wc _ = wc; have n0_ : Aside0 (wc.heap[gb340]? = some (.cells #[.int .i64 a1_0, .int .i64 a1_1, .int .i64 a1_2] 36 (0, 0))) := ⟨by rw [← hq_]; exact (by (with_reducible repeat (first | refine z4q ?_ _ | refine z6q ?_ | refine z5q ?_ _)); exact BK340.out)⟩; have n1_ : Aside0 (wc.heap[gb341]? = some (.cells #[.int .i64 0, .int .i64 0, .int .i64 0] 36 (0, 0))) := ⟨by rw [← hq_]; exact (by (with_reducible repeat (first | refine z4q ?_ _ | refine z6q ?_ | refine z5q ?_ _)); exact BK341.out)⟩; have n2_ : Aside0 (Below w.heap.size w wc) := ⟨by rw [← hq_]; exact (by repeat (first | (with_reducible first | exact HB.out | apply z2q | apply z0q | apply z1q | refine z3q ?_ GE340.out | refine z3q ?_ GE341.out) | exact HB.out))⟩; clear BK340 BK341 HB hq_; have BK340 := n0_; have BK341 := n1_; have HB := n2_; clear n0_ n1_ n2_))))
     have n0_ := Aside0.mk (z6q BK340.out)
     have n1_ := Aside0.mk (z6q BK341.out)
     have n2_ := Aside0.mk (z1q HB.out)
     clear BK340
     clear BK341
     clear HB
     have BK340 := n0_
     have BK341 := n1_
     have HB := n2_
     clear n0_ n1_ n2_
     refine start_ (n := 11) (S := fun w' => w'.cell? ⟨gb340, 0, none⟩ = some (.int .i64 a1_0) ∧ w'.cell? ⟨gb340, 1, none⟩ = some (.int .i64 a1_1) ∧ w'.cell? ⟨gb340, 2, none⟩ = some (.int .i64 a1_2)) (ds := []) bt7_4 (by kernel_rfl) rfl rfl ⟨(z7q BK340.out 0).trans rfl, (z7q BK340.out 1).trans rfl, (z7q BK340.out 2).trans rfl⟩ (fun hHeld => ?_); refine with_tabW impl_AddMonths.tab8 impl_AddMonths.bits8 (fun HT_ HW_ => ?_)
     generalize wc.drew = w30 at BK340 BK341 HB hHeld ⊢
     refine pure_ (i := 0) (N := some 42) (v := ?_) (a' := ?_) bt7_5 rfl rfl (z10q HT_.out (by kernel_rfl)) (fun _ _ _ h => h) (Or.inl ⟨by rfl, ?_⟩) ?_ ?_
     rotate_left
     ·intro w'
      go_simp
      with_reducible rfl
     rotate_left
     ·simp only [Act.put, setIfInBounds_toArray, set_cons_zero, set_cons_succ, i64_w, i32_w]
      rfl
     refine pure_ (i := 1) (N := some 43) (v := ?_) (a' := ?_) bt7_6 rfl rfl (z10q HT_.out (by kernel_rfl)) (fun _ _ _ h => h) (Or.inl ⟨by rfl, ?_⟩) ?_ ?_
     rotate_left
     ·intro w'
      go_simp
      with_reducible rfl
     rotate_left
     ·simp only [Act.put, setIfInBounds_toArray, set_cons_zero, set_cons_succ, i64_w, i32_w]
      rfl
     refine pure_ (i := 2) (N := some 44) (v := ?_) (a' := ?_) bt7_7 rfl rfl (z10q HT_.out (by kernel_rfl)) (fun _ _ _ h => h) (Or.inl ⟨by rfl, ?_⟩) ?_ ?_
     rotate_left
     ·intro w'
      go_simp
      with_reducible rfl
     rotate_left
     ·simp only [Act.put, setIfInBounds_toArray, set_cons_zero, set_cons_succ, i64_w, i32_w]
      rfl
     refine pure_ (i := 4) (N := some 46) (v := ?_) (a' := ?_) bt7_8 rfl rfl (z10q HT_.out (by kernel_rfl)) (fun _ _ _ h => h) (Or.inl ⟨by rfl, ?_⟩) ?_ ?_
     rotate_left
     ·intro w'
      go_simp
      with_reducible rfl
     rotate_left
     ·simp only [Act.put, setIfInBounds_toArray, set_cons_zero, set_cons_succ, i64_w, i32_w]
      rfl
     refine pure_ (i := 5) (N := some 47) (v := ?_) (a' := ?_) bt7_9 rfl rfl (z10q HT_.out (by kernel_rfl)) (fun _ _ _ h => h) (Or.inl ⟨by rfl, ?_⟩) ?_ ?_
     rotate_left
     ·intro w'
      go_simp
      with_reducible rfl
     rotate_left
     ·simp only [Act.put, setIfInBounds_toArray, set_cons_zero, set_cons_succ, i64_w, i32_w]
      rfl
     refine pure_ (i := 6) (N := some 48) (v := ?_) (a' := ?_) bt7_10 rfl rfl (z10q HT_.out (by kernel_rfl)) (fun _ _ _ h => h) (Or.inl ⟨by rfl, ?_⟩) ?_ ?_
     rotate_left
     ·intro w'
      go_simp
      with_reducible rfl
     rotate_left
     ·simp only [Act.put, setIfInBounds_toArray, set_cons_zero, set_cons_succ, i64_w, i32_w]
      rfl
     refine take_ (i := 3) (N := some 45) (v := ?_) (a' := ?_) bt7_11 rfl rfl (z23q HT_.out HW_.out (by kernel_rfl)) (fun _ _ _ h => h) (Or.inl ⟨by rfl, ?_⟩) hHeld ?_ ?_
     rotate_left
     ·rintro w' ⟨s0, s1, s2⟩
      go_simp
      with_reducible rfl
     rotate_left
     ·simp only [Act.put, setIfInBounds_toArray, set_cons_zero, set_cons_succ, i64_w, i32_w]
      rfl
     refine one_ (i := 7) (N := some 49) bt7_12 rfl rfl (one_of HT_.out (by kernel_rfl)) (by decide) (fun K hK => ?_)
     refine goes_ Tryd.func64 (by kernel_rfl) rfl #[.int .i64 a0, .int .i64 t343, .int .i64 (wrap64 (t344 + 1))] (by rfl) rfl rfl (by (try simp only [map_toArray, map_cons, map_nil]); first | done | rfl | (simp only [length_drop, length_take]; rfl)) ?_
     with_reducible refine (impl_monthDays.calls a0 t343 (wrap64 (t344 + 1)) t346 _ (hT.below (by repeat (first | exact HB.out | exact Below.refl _ _ | apply z2q | apply z0q | apply z1q | refine z3q ?_ GE340.out | refine z3q ?_ GE341.out))) A26.out).mono ?_
     rintro e w' ⟨rfl, ⟨nd, rfl⟩⟩
     refine ⟨_, rfl, ?_⟩
     refine hK.out _ _ ⟨(z7q BK340.out 0).trans rfl, (z7q BK340.out 1).trans rfl, (z7q BK340.out 2).trans rfl⟩ (fun hHeld => ?_)
     clear hK K
     refine norm_ (a' := ?_) ?_ ?_
     rotate_left
     ·show Act.put _ (some 49) _ = _
      simp only [Act.put, setIfInBounds_toArray, set_cons_zero, set_cons_succ, i64_w, i32_w]
      rfl
     refine pure_ (i := 8) (N := some 50) (v := ?_) (a' := ?_) bt7_13 rfl rfl (z10q HT_.out (by kernel_rfl)) (fun _ _ _ h => h) (Or.inl ⟨by rfl, ?_⟩) ?_ ?_
     rotate_left
     ·intro w'
      go_simp
      with_reducible rfl
     rotate_left
     ·simp only [Act.put, setIfInBounds_toArray, set_cons_zero, set_cons_succ, i64_w, i32_w]
      rfl
     refine pure_ (i := 9) (N := some 51) (v := ?_) (a' := ?_) bt7_14 rfl rfl (z10q HT_.out (by kernel_rfl)) (fun _ _ _ h => h) (Or.inl ⟨by rfl, ?_⟩) ?_ ?_
     rotate_left
     ·intro w'
      go_simp
      with_reducible rfl
     rotate_left
     ·simp only [Act.put, setIfInBounds_toArray, set_cons_zero, set_cons_succ, i64_w, i32_w]
      rfl
     refine one_ (i := 10) (N := none) bt7_15 rfl rfl (one_of HT_.out (by kernel_rfl)) (by decide) (fun K hK => ?_)
     have hs31 : w30.cell? ⟨gb341, 0, none⟩ = some (.int .i64 0) := (z7q BK341.out 0).trans rfl
     have hfs31 := z8q BK341.out 0
     have hns31_0 := NB340_341.out
     have hms31_0 := NB341_340.out
     have hs32 : w30.cell? ⟨gb341, 1, none⟩ = some (.int .i64 0) := (z7q BK341.out 1).trans rfl
     have hfs32 := z8q BK341.out 1
     have hns32_0 := NB340_341.out
     have hms32_0 := NB341_340.out
     have hs33 : w30.cell? ⟨gb341, 2, none⟩ = some (.int .i64 0) := (z7q BK341.out 2).trans rfl
     have hfs33 := z8q BK341.out 2
     have hns33_0 := NB340_341.out
     have hms33_0 := NB341_340.out
     refine skip_ (w1 := ?_) (by rfl) rfl ?_ ?_
     rotate_left
     ·go_simp
      rfl
     refine hK.out _ _ ⟨((z24q (p := ⟨gb341, _, none⟩) NB340_341.out _).trans (((z24q (p := ⟨gb341, _, none⟩) NB340_341.out _).trans (((z24q (p := ⟨gb341, _, none⟩) NB340_341.out _).trans (hHeld.1)))))), ((z24q (p := ⟨gb341, _, none⟩) NB340_341.out _).trans (((z24q (p := ⟨gb341, _, none⟩) NB340_341.out _).trans (((z24q (p := ⟨gb341, _, none⟩) NB340_341.out _).trans (hHeld.2.1)))))), ((z24q (p := ⟨gb341, _, none⟩) NB340_341.out _).trans (((z24q (p := ⟨gb341, _, none⟩) NB340_341.out _).trans (((z24q (p := ⟨gb341, _, none⟩) NB340_341.out _).trans (hHeld.2.2))))))⟩ (fun hHeld => ?_)
     clear hK K
     refine done_ (done_of HT_.out (by kernel_rfl)) ?_
     try go_wp2
     refine bodyPost_ret (results_cell_row rfl _ _ gb341 36 #[.int .i64 t343, .int .i64 (wrap64 (t344 + 1)), .int .i64 ji27] (0, 0) _ rfl (by (with_reducible repeat (first | refine z4q ?_ _ | refine z6q ?_ | refine z5q ?_ _)); refine z14q (cs := #[.int .i64 t343, .int .i64 (wrap64 (t344 + 1)), .int .i64 0]) ?_ 2 _ rfl; (with_reducible repeat (first | refine z4q ?_ _ | refine z6q ?_ | refine z5q ?_ _)); refine z14q (cs := #[.int .i64 t343, .int .i64 0, .int .i64 0]) ?_ 1 _ rfl; (with_reducible repeat (first | refine z4q ?_ _ | refine z6q ?_ | refine z5q ?_ _)); refine z14q (cs := #[.int .i64 0, .int .i64 0, .int .i64 0]) ?_ 0 _ rfl; (with_reducible repeat (first | refine z4q ?_ _ | refine z6q ?_ | refine z5q ?_ _)); exact BK341.out) Tryd.underlying36 rfl (by kernel_rfl)) rfl ?_
     exact ⟨by first | rfl | (simp [errW_none, errW_some] <;> rfl) | (simp only [← hji27]; first | rfl | (simp [errW_none, errW_some] <;> rfl)) | (simp [*, errW_none, errW_some] <;> rfl), by repeat (first | (with_reducible first | exact HB.out | apply z2q | apply z0q | apply z1q | refine z3q ?_ GE340.out | refine z3q ?_ GE341.out) | exact HB.out)⟩
    ·replace c25 := Bool.eq_false_iff.mpr c25
     subst c25
     have H1 : (some (0, 0, 0)) = some (r1, r2, r3) := by rw [if_neg (show ¬ (false = true) by decide)] at H; exact H
     clear H
     have H := H1
     clear H1
     simp only [Option.some.injEq, Prod.mk.injEq] at H
     obtain ⟨rfl, rfl, rfl⟩ := H
     have hnb34 := NB340_341.out
     have hnc34 := NB341_340.out
     have hcz35_0 : wc.cell? ⟨gb340, 0, none⟩ = some (.int .i64 a1_0) := (z7q BK340.out 0).trans rfl
     have hcz35_1 : wc.cell? ⟨gb340, 1, none⟩ = some (.int .i64 a1_1) := (z7q BK340.out 1).trans rfl
     have hcz35_2 : wc.cell? ⟨gb340, 2, none⟩ = some (.int .i64 a1_2) := (z7q BK340.out 2).trans rfl
     have hfz35_0 := z8q BK340.out 0
     have hfz35_1 := z8q BK340.out 1
     have hfz35_2 := z8q BK340.out 2
     go_wp2_with (first | ((with_reducible refine z9q (f := 73) rfl ?_); refine z17q (some 33) rfl rfl Tryd.func73 (by kernel_rfl) rfl #[.int .i64 (wrap64 ((wrap64 ((wrap64 ((wrap64 (a1_0 * 12)) + a1_1)) - 1)) + a2)), .int .i64 12] rfl (by (try simp only [map_toArray, map_cons, map_nil]); first | done | rfl | (simp only [length_drop, length_take]; rfl)) ?_; (with_reducible refine (impl_floorDiv_int.calls (wrap64 ((wrap64 ((wrap64 ((wrap64 (a1_0 * 12)) + a1_1)) - 1)) + a2)) 12 t343 _ A22.out).mono ?_); rintro e w' ⟨rfl, ⟨nd, rfl⟩⟩; refine ⟨_, rfl, ?_⟩; (try (rw [drewN_self wc]; generalize hq_ : World.drewN wc _ = wc; have n0_ : Aside0 (wc.heap[gb340]? = some (.cells #[.int .i64 a1_0, .int .i64 a1_1, .int .i64 a1_2] 36 (0, 0))) := ⟨by rw [← hq_]; exact (by (with_reducible repeat (first | refine z4q ?_ _ | refine z6q ?_ | refine z5q ?_ _)); exact BK340.out)⟩; have n1_ : Aside0 (wc.heap[gb341]? = some (.cells #[.int .i64 0, .int .i64 0, .int .i64 0] 36 (0, 0))) := ⟨by rw [← hq_]; exact (by (with_reducible repeat (first | refine z4q ?_ _ | refine z6q ?_ | refine z5q ?_ _)); exact BK341.out)⟩; have n2_ : Aside0 (Below w.heap.size w wc) := ⟨by rw [← hq_]; exact (by repeat (first | (with_reducible first | exact HB.out | apply z2q | apply z0q | apply z1q | refine z3q ?_ GE340.out | refine z3q ?_ GE341.out) | exact HB.out))⟩; clear BK340 BK341 HB hq_; have BK340 := n0_; have BK341 := n1_; have HB := n2_; clear n0_ n1_ n2_))) | ((with_reducible refine z9q (f := 58) rfl ?_); refine z17q (some 35) rfl rfl Tryd.func58 (by kernel_rfl) rfl #[.int .i64 (wrap64 ((wrap64 ((wrap64 ((wrap64 (a1_0 * 12)) + a1_1)) - 1)) + a2)), .int .i64 12] rfl (by (try simp only [map_toArray, map_cons, map_nil]); first | done | rfl | (simp only [length_drop, length_take]; rfl)) ?_; (with_reducible refine (impl_floorMod_int.calls (wrap64 ((wrap64 ((wrap64 ((wrap64 (a1_0 * 12)) + a1_1)) - 1)) + a2)) 12 t344 _ A23.out).mono ?_); rintro e w' ⟨rfl, ⟨nd, rfl⟩⟩; refine ⟨_, rfl, ?_⟩; (try (rw [drewN_self wc]; generalize hq_ : World.drewN wc _ = wc; have n0_ : Aside0 (wc.heap[gb340]? = some (.cells #[.int .i64 a1_0, .int .i64 a1_1, .int .i64 a1_2] 36 (0, 0))) := ⟨by rw [← hq_]; exact (by (with_reducible repeat (first | refine z4q ?_ _ | refine z6q ?_ | refine z5q ?_ _)); exact BK340.out)⟩; have n1_ : Aside0 (wc.heap[gb341]? = some (.cells #[.int .i64 0, .int .i64 0, .int .i64 0] 36 (0, 0))) := ⟨by rw [← hq_]; exact (by (with_reducible repeat (first | refine z4q ?_ _ | refine z6q ?_ | refine z5q ?_ _)); exact BK341.out)⟩; have n2_ : Aside0 (Below w.heap.size w wc) := ⟨by rw [← hq_]; exact (by repeat (first | (with_reducible first | exact HB.out | apply z2q | apply z0q | apply z1q | refine z3q ?_ GE340.out | refine z3q ?_ GE341.out) | exact HB.out))⟩; clear BK340 BK341 HB hq_; have BK340 := n0_; have BK341 := n1_; have HB := n2_; clear n0_ n1_ n2_))) | ((with_reducible refine z9q (f := 63) rfl ?_); refine z17q (some 39) rfl rfl Tryd.func63 (by kernel_rfl) rfl #[.int .i64 a0, .int .i64 t343] rfl (by (try simp only [map_toArray, map_cons, map_nil]); first | done | rfl | (simp only [length_drop, length_take]; rfl)) ?_; (with_reducible refine (impl_goodYear.calls a0 t343 false _ A24.out).mono ?_); rintro e w' ⟨rfl, ⟨nd, rfl⟩⟩; refine ⟨_, rfl, ?_⟩; (try (rw [drewN_self wc]; generalize hq_ : World.drewN wc _ = wc; have n0_ : Aside0 (wc.heap[gb340]? = some (.cells #[.int .i64 a1_0, .int .i64 a1_1, .int .i64 a1_2] 36 (0, 0))) := ⟨by rw [← hq_]; exact (by (with_reducible repeat (first | refine z4q ?_ _ | refine z6q ?_ | refine z5q ?_ _)); exact BK340.out)⟩; have n1_ : Aside0 (wc.heap[gb341]? = some (.cells #[.int .i64 0, .int .i64 0, .int .i64 0] 36 (0, 0))) := ⟨by rw [← hq_]; exact (by (with_reducible repeat (first | refine z4q ?_ _ | refine z6q ?_ | refine z5q ?_ _)); exact BK341.out)⟩; have n2_ : Aside0 (Below w.heap.size w wc) := ⟨by rw [← hq_]; exact (by repeat (first | (with_reducible first | exact HB.out | apply z2q | apply z0q | apply z1q | refine z3q ?_ GE340.out | refine z3q ?_ GE341.out) | exact HB.out))⟩; clear BK340 BK341 HB hq_; have BK340 := n0_; have BK341 := n1_; have HB := n2_; clear n0_ n1_ n2_)); have hcz36_0 : wc.cell? ⟨gb341, 0, none⟩ = some (.int .i64 0) := (z7q BK341.out 0).trans rfl; have hcz36_1 : wc.cell? ⟨gb341, 1, none⟩ = some (.int .i64 0) := (z7q BK341.out 1).trans rfl; have hcz36_2 : wc.cell? ⟨gb341, 2, none⟩ = some (.int .i64 0) := (z7q BK341.out 2).trans rfl; have hfz36_0 := z8q BK341.out 0; have hfz36_1 := z8q BK341.out 1; have hfz36_2 := z8q BK341.out 2))
     refine bodyPost_ret (results_cell_row rfl _ _ gb341 36 #[.int .i64 0, .int .i64 0, .int .i64 0] (0, 0) _ rfl (by (with_reducible repeat (first | refine z4q ?_ _ | refine z6q ?_ | refine z5q ?_ _)); refine z14q (cs := #[.int .i64 0, .int .i64 0, .int .i64 0]) ?_ 2 _ rfl; (with_reducible repeat (first | refine z4q ?_ _ | refine z6q ?_ | refine z5q ?_ _)); refine z14q (cs := #[.int .i64 0, .int .i64 0, .int .i64 0]) ?_ 1 _ rfl; (with_reducible repeat (first | refine z4q ?_ _ | refine z6q ?_ | refine z5q ?_ _)); refine z14q (cs := #[.int .i64 0, .int .i64 0, .int .i64 0]) ?_ 0 _ rfl; (with_reducible repeat (first | refine z4q ?_ _ | refine z6q ?_ | refine z5q ?_ _)); exact BK341.out) Tryd.underlying36 rfl (by kernel_rfl)) rfl ?_
     exact ⟨by first | rfl | (simp [errW_none, errW_some] <;> rfl) | (simp [*, errW_none, errW_some] <;> rfl), by repeat (first | (with_reducible first | exact HB.out | apply z2q | apply z0q | apply z1q | refine z3q ?_ GE340.out | refine z3q ?_ GE341.out) | exact HB.out)⟩

set_option maxHeartbeats 8000000 in
set_option maxRecDepth 100000 in
theorem impl_AddMonths.calls (k : Nat) (a0 : Int) (a1_0 : Int) (a1_1 : Int) (a1_2 : Int) (a2 : Int) (r1 : Int) (r2 : Int) (r3 : Int) (w : World) (hT : Tab w) (h : impl_AddMonths.f k a0 a1_0 a1_1 a1_2 a2 = some (r1, r2, r3)) :
  Calls Tryd.prog 28 #[.int .i64 a0, .agg #[.int .i64 a1_0, .int .i64 a1_1, .int .i64 a1_2], .int .i64 a2] w fun e w' => e = .returned (.agg #[.int .i64 r1, .int .i64 r2, .int .i64 r3]) ∧ Below w.heap.size w w' := by
 have H : ((impl_isDate.f a0 a1_0 a1_1 a1_2).bind fun t342 => (if t342 = true then (if a2 < (-100000) then (impl_AddMonths.j0 k a0 a2 true a1_0 a1_1 a1_2) else (impl_AddMonths.j0 k a0 a2 (decide (a2 > 100000)) a1_0 a1_1 a1_2)) else (impl_AddMonths.j0 k a0 a2 true a1_0 a1_1 a1_2))) = some (r1, r2, r3) := h
 exact impl_AddMonths.calls_p1 k a0 a1_0 a1_1 a1_2 a2 r1 r2 r3 w hT H

/-! ### spec_l2Year: function 76 -/

def spec_l2Year.f (a0 : Int) : Option (Bool) := if a0 ≥ (-5000) then (some (decide (a0 ≤ 9999))) else (some false)

set_option maxHeartbeats 8000000 in
set_option maxRecDepth 100000 in
theorem spec_l2Year.calls (a0 : Int) (r : Bool) (w : World) (h : spec_l2Year.f a0 = some r) :
  Calls Tryd.prog 76 #[.int .i64 a0] w fun e w' => e = .returned (.bool r) ∧ Drawn0 w w' := by
 have H : (if a0 ≥ (-5000) then (some (decide (a0 ≤ 9999))) else (some false)) = some r := h
 clear h
 by_cases c2 : a0 ≥ (-5000)
 ·rw [if_pos c2] at H
  have c2b0 : decide ((-5000) ≤ a0) = true := decide_eq_true c2
  clear c2
  obtain rfl := Option.some.inj H
  go_enter Tryd.func76, Tryd.ntmps76
  go_wp2
  go_ret
  exact ⟨by first | rfl | (simp; done) | (simp [*]; done), by repeat (first | exact Drawn0.refl _ | apply Drawn0.step)⟩
 ·rw [if_neg c2] at H
  have c2b0 : decide ((-5000) ≤ a0) = false := decide_eq_false c2
  clear c2
  obtain rfl := Option.some.inj H
  go_enter Tryd.func76, Tryd.ntmps76
  go_wp2
  go_ret
  exact ⟨by first | rfl | (simp; done) | (simp [*]; done), by repeat (first | exact Drawn0.refl _ | apply Drawn0.step)⟩



/-! ### spec_l2DayOf: function 74 -/

mutual
def spec_l2DayOf.j0 : Nat → Int → Bool → Int → Int → Int → Option (Int × Bool)
 | 0, _, _, _, _, _ => none
 | k + 1, x0, x42, x348000, x348001, x348002 => if x42 = true then (some (0, false)) else ((spec_l2Days.f x0 x348000).bind fun t351 => (spec_l2DayOf.l0 k x0 (wrap64 ((wrap64 (t351 + x348002)) - 1)) 1 x348000 x348001 x348002))
def spec_l2DayOf.l0 : Nat → Int → Int → Int → Int → Int → Int → Option (Int × Bool)
 | 0, _, _, _, _, _, _ => none
 | k + 1, x0, x6, x7, x348000, x348001, x348002 => if x7 < x348001 then ((spec_l2MonthDays.f x0 x348000 x7).bind fun t352 => (spec_l2DayOf.l0 k x0 (wrap64 (x6 + t352)) (wrap64 (x7 + 1)) x348000 x348001 x348002)) else (if x0 = 2 then (some (wrap64 (x6 + 13), true)) else (some (x6, true)))
end

def spec_l2DayOf.f (k : Nat) (a0 : Int) (a1_0 : Int) (a1_1 : Int) (a1_2 : Int) : Option (Int × Bool) := (spec_l2Cal.f a0).bind fun t348 => (if t348 = true then ((spec_l2Year.f a1_0).bind fun t349 => (if t349 = true then (if a1_1 < 1 then (spec_l2DayOf.j0 k a0 true a1_0 a1_1 a1_2) else (if a1_1 > 12 then (spec_l2DayOf.j0 k a0 true a1_0 a1_1 a1_2) else (if a1_2 < 1 then (spec_l2DayOf.j0 k a0 true a1_0 a1_1 a1_2) else ((spec_l2MonthDays.f a0 a1_0 a1_1).bind fun t350 => (spec_l2DayOf.j0 k a0 (decide (a1_2 > t350)) a1_0 a1_1 a1_2))))) else (spec_l2DayOf.j0 k a0 true a1_0 a1_1 a1_2))) else (spec_l2DayOf.j0 k a0 true a1_0 a1_1 a1_2))

end Go.Proofs.YtffamggcjijobaaDoor.PFnDays
