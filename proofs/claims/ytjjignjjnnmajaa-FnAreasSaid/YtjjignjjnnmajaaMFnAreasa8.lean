/- Functions of the program as Lean functions, and proofs that the Go code comes to their answers: for the law FnAreas; made out of the print by a program of mine (compact.py). No conditions but each theorem's own. -/
import Derived.Test.YtjjignjjnnmajaaMFnAreasa0
import Derived.Test.YtjjignjjnnmajaaMFnAreasa3
import Derived.Test.YtjjignjjnnmajaaMFnAreasa5
import Derived.Test.YtjjignjjnnmajaaMFnAreasa6
import Derived.Test.YtjjignjjnnmajaaMFnAreasa7
namespace Go.Proofs.Ytjjignjjnnmajaa.PFnAreas
open List (map_toArray map_cons map_nil length_drop length_take set_cons_zero set_cons_succ setIfInBounds_toArray)
open Go.RowKit Go.Proofs.YtjjignjjnnmajaaW.PrintWords Go.Proofs.YtjjignjjnnmajaaW.PrintLast Go.Proofs.YtjjignjjnnmajaaW.PrintMore
attribute [local go_sem] max2_int min2_int max_two min_two max_three min_three max_four min_four   -- for this text's walks alone
set_option linter.unusedVariables false
set_option linter.unusedSimpArgs false

attribute [local go_sem high] eqA26
set_option maxHeartbeats 8000000 in
set_option maxRecDepth 100000 in
theorem spec_Without.calls (k : Nat) (a0_0 : Int) (a0_1 : Int) (a0_2 : Bool) (a0_3 : Bool) (a0_4 : Int) (a0_5 : Int) (a0_6 : Bool) (a0_7 : Bool) (a1_0 : Int) (a1_1 : Int) (a1_2 : Bool) (a1_3 : Bool) (a1_4 : Int) (a1_5 : Int) (a1_6 : Bool) (a1_7 : Bool) (r : List (S26)) (w : World) (h : spec_Without.f k a0_0 a0_1 a0_2 a0_3 a0_4 a0_5 a0_6 a0_7 a1_0 a1_1 a1_2 a1_3 a1_4 a1_5 a1_6 a1_7 = some r) :
  Calls Try.prog 8 #[.agg #[.int .i64 a0_0, .int .i64 a0_1, .bool a0_2, .bool a0_3, .int .i64 a0_4, .int .i64 a0_5, .bool a0_6, .bool a0_7], .agg #[.int .i64 a1_0, .int .i64 a1_1, .bool a1_2, .bool a1_3, .int .i64 a1_4, .int .i64 a1_5, .bool a1_6, .bool a1_7]] w fun e w' => ∃ v0_ : Value, e = .returned (v0_) ∧ Kd.R k26 26 w' w.heap.size (fun _ => True) v0_ r ∧ Below w.heap.size w w' := by
 have H : ((spec_GoodArea.f a0_0 a0_1 a0_2 a0_3 a0_4 a0_5 a0_6 a0_7).bind fun t322 => (if t322 = true then ((spec_GoodArea.f a1_0 a1_1 a1_2 a1_3 a1_4 a1_5 a1_6 a1_7).bind fun t323 => (spec_Without.j0 k (!t323) a0_0 a0_1 a0_2 a0_3 a0_4 a0_5 a0_6 a0_7 a1_0 a1_1 a1_2 a1_3 a1_4 a1_5 a1_6 a1_7)) else (spec_Without.j0 k true a0_0 a0_1 a0_2 a0_3 a0_4 a0_5 a0_6 a0_7 a1_0 a1_1 a1_2 a1_3 a1_4 a1_5 a1_6 a1_7))) = some r := h
 exact spec_Without.calls_p1 k a0_0 a0_1 a0_2 a0_3 a0_4 a0_5 a0_6 a0_7 a1_0 a1_1 a1_2 a1_3 a1_4 a1_5 a1_6 a1_7 r w H

/-! ### impl_Hull: function 10 -/

def impl_Hull.j0 : Nat → Bool → Int → Int → Bool → Bool → Int → Int → Bool → Bool → Int → Int → Bool → Bool → Int → Int → Bool → Bool → Option (Int × Int × Bool × Bool × Int × Int × Bool × Bool)
 | 0, _, _, _, _, _, _, _, _, _, _, _, _, _, _, _, _, _ => none
 | k + 1, x16, x409000, x409001, x409002, x409003, x409004, x409005, x409006, x409007, x410000, x410001, x410002, x410003, x410004, x410005, x410006, x410007 => if x16 = true then (some (0, 0, false, false, 0, 0, false, false)) else ((impl_Area_block.f x409000 x409001 x409002 x409003 x409004 x409005 x409006 x409007).bind fun bt413 => ((impl_Area_block.f x410000 x410001 x410002 x410003 x410004 x410005 x410006 x410007).bind fun bt418 => ((impl_blockOf.f (mn bt413.1 bt418.1) (mn bt413.2.1 bt418.2.1) (mx bt413.2.2.1 bt418.2.2.1) (mx bt413.2.2.2 bt418.2.2.2)).bind fun bt423 => ((impl_block_area.f bt423.1 bt423.2.1 bt423.2.2.1 bt423.2.2.2.1).bind fun bt429 => (some (bt429.1, bt429.2.1, bt429.2.2.1, bt429.2.2.2.1, bt429.2.2.2.2.1, bt429.2.2.2.2.2.1, bt429.2.2.2.2.2.2.1, bt429.2.2.2.2.2.2.2))))))

def impl_Hull.f (k : Nat) (a0_0 : Int) (a0_1 : Int) (a0_2 : Bool) (a0_3 : Bool) (a0_4 : Int) (a0_5 : Int) (a0_6 : Bool) (a0_7 : Bool) (a1_0 : Int) (a1_1 : Int) (a1_2 : Bool) (a1_3 : Bool) (a1_4 : Int) (a1_5 : Int) (a1_6 : Bool) (a1_7 : Bool) : Option (Int × Int × Bool × Bool × Int × Int × Bool × Bool) := (impl_GoodArea.f a0_0 a0_1 a0_2 a0_3 a0_4 a0_5 a0_6 a0_7).bind fun t411 => (if t411 = true then ((impl_GoodArea.f a1_0 a1_1 a1_2 a1_3 a1_4 a1_5 a1_6 a1_7).bind fun t412 => (impl_Hull.j0 k (!t412) a0_0 a0_1 a0_2 a0_3 a0_4 a0_5 a0_6 a0_7 a1_0 a1_1 a1_2 a1_3 a1_4 a1_5 a1_6 a1_7)) else (impl_Hull.j0 k true a0_0 a0_1 a0_2 a0_3 a0_4 a0_5 a0_6 a0_7 a1_0 a1_1 a1_2 a1_3 a1_4 a1_5 a1_6 a1_7))

set_option maxHeartbeats 8000000 in
set_option maxRecDepth 100000 in
theorem impl_Hull.calls_p1 (k : Nat) (a0_0 : Int) (a0_1 : Int) (a0_2 : Bool) (a0_3 : Bool) (a0_4 : Int) (a0_5 : Int) (a0_6 : Bool) (a0_7 : Bool) (a1_0 : Int) (a1_1 : Int) (a1_2 : Bool) (a1_3 : Bool) (a1_4 : Int) (a1_5 : Int) (a1_6 : Bool) (a1_7 : Bool) (r1 : Int) (r2 : Int) (r3 : Bool) (r4 : Bool) (r5 : Int) (r6 : Int) (r7 : Bool) (r8 : Bool) (w : World) (H : ((impl_GoodArea.f a0_0 a0_1 a0_2 a0_3 a0_4 a0_5 a0_6 a0_7).bind fun t411 => (if t411 = true then ((impl_GoodArea.f a1_0 a1_1 a1_2 a1_3 a1_4 a1_5 a1_6 a1_7).bind fun t412 => (impl_Hull.j0 k (!t412) a0_0 a0_1 a0_2 a0_3 a0_4 a0_5 a0_6 a0_7 a1_0 a1_1 a1_2 a1_3 a1_4 a1_5 a1_6 a1_7)) else (impl_Hull.j0 k true a0_0 a0_1 a0_2 a0_3 a0_4 a0_5 a0_6 a0_7 a1_0 a1_1 a1_2 a1_3 a1_4 a1_5 a1_6 a1_7))) = some (r1, r2, r3, r4, r5, r6, r7, r8)) :
  Calls Try.prog 10 #[.agg #[.int .i64 a0_0, .int .i64 a0_1, .bool a0_2, .bool a0_3, .int .i64 a0_4, .int .i64 a0_5, .bool a0_6, .bool a0_7], .agg #[.int .i64 a1_0, .int .i64 a1_1, .bool a1_2, .bool a1_3, .int .i64 a1_4, .int .i64 a1_5, .bool a1_6, .bool a1_7]] w fun e w' => e = .returned (.agg #[.int .i64 r1, .int .i64 r2, .bool r3, .bool r4, .int .i64 r5, .int .i64 r6, .bool r7, .bool r8]) ∧ Below w.heap.size w w' := by
 have hu26 := Try.underlying26
 have hu41 := Try.underlying41
 have HB := Aside0.mk (Below.refl w.heap.size w)
 have HC3 := Aside0.mk H
 clear H
 go_enter Try.func10, Try.ntmps10
 go_upto_region 1 with (first | ((with_reducible refine z22q (N := 2) rfl ?_); refine z20q ?hg (N := 2) ?hd (cs := #[.int .i64 a0_0, .int .i64 a0_1, .bool a0_2, .bool a0_3, .int .i64 a0_4, .int .i64 a0_5, .bool a0_6, .bool a0_7]) (t := 26) ?hr ?_; (case hd => rfl); (case hg => rfl); (case hr => first | (go_simp; done) | (go_simp; rfl)); intro gb408 hg w4 hbox hb; have n0_ := Aside0.mk (z8q (ibh HB.out) hb); have n1_ := Aside0.mk (hbox); have n2_ := Aside0.mk ((by rw [hg]; exact (z13q (ibh HB.out)) : w.heap.size ≤ gb408)); have n3_ := Aside0.mk ((by rw [hg]; exact (z13q (ibh HB.out)) : w.heap.size ≤ gb408)); clear HB; have HB := n0_; have BK408 := n1_; have GW408 := n2_; have GE408 := n3_; clear n0_ n1_ n2_ n3_; clear hb hbox hg) | ((with_reducible refine z22q (N := 3) rfl ?_); refine z20q ?hg (N := 3) ?hd (cs := #[.int .i64 a1_0, .int .i64 a1_1, .bool a1_2, .bool a1_3, .int .i64 a1_4, .int .i64 a1_5, .bool a1_6, .bool a1_7]) (t := 26) ?hr ?_; (case hd => rfl); (case hg => rfl); (case hr => first | (go_simp; done) | (go_simp; rfl)); intro gb409 hg w5 hbox hb; have n0_ := Aside0.mk (z2q (cy BK408.out) hb); have n1_ := Aside0.mk (z8q (ibh HB.out) hb); have n2_ := Aside0.mk (hbox); have n3_ := Aside0.mk ((by rw [hg]; exact (z13q (ibh HB.out)) : w.heap.size ≤ gb409)); have n4_ := Aside0.mk ((by rw [hg]; exact (z13q (ibh HB.out)) : w.heap.size ≤ gb409)); have n5_ := Aside0.mk ((by rw [hg]; exact Nat.ne_of_lt (z14q (cy BK408.out)) : gb408 ≠ gb409)); have n6_ := Aside0.mk ((by rw [hg]; exact Nat.ne_of_gt (z14q (cy BK408.out)) : gb409 ≠ gb408)); clear BK408; clear HB; have BK408 := n0_; have HB := n1_; have BK409 := n2_; have GW409 := n3_; have GE409 := n4_; have NB408_409 := n5_; have NB409_408 := n6_; clear n0_ n1_ n2_ n3_ n4_ n5_ n6_; clear hb hbox hg) | ((with_reducible refine z22q (N := 4) rfl ?_); refine z20q ?hg (N := 4) ?hd (cs := #[.int .i64 0, .int .i64 0, .bool false, .bool false, .int .i64 0, .int .i64 0, .bool false, .bool false]) (t := 26) ?hr ?_; (case hd => rfl); (case hg => rfl); (case hr => first | (go_simp; done) | (go_simp; rfl)); intro gb410 hg w6 hbox hb; have n0_ := Aside0.mk (z2q (cy BK408.out) hb); have n1_ := Aside0.mk (z2q (cy BK409.out) hb); have n2_ := Aside0.mk (z8q (ibh HB.out) hb); have n3_ := Aside0.mk (hbox); have n4_ := Aside0.mk ((by rw [hg]; exact (z13q (ibh HB.out)) : w.heap.size ≤ gb410)); have n5_ := Aside0.mk ((by rw [hg]; exact (z13q (ibh HB.out)) : w.heap.size ≤ gb410)); have n6_ := Aside0.mk ((by rw [hg]; exact Nat.ne_of_lt (z14q (cy BK408.out)) : gb408 ≠ gb410)); have n7_ := Aside0.mk ((by rw [hg]; exact Nat.ne_of_gt (z14q (cy BK408.out)) : gb410 ≠ gb408)); have n8_ := Aside0.mk ((by rw [hg]; exact Nat.ne_of_lt (z14q (cy BK409.out)) : gb409 ≠ gb410)); have n9_ := Aside0.mk ((by rw [hg]; exact Nat.ne_of_gt (z14q (cy BK409.out)) : gb410 ≠ gb409)); clear BK408; clear BK409; clear HB; have BK408 := n0_; have BK409 := n1_; have HB := n2_; have BK410 := n3_; have GW410 := n4_; have GE410 := n5_; have NB408_410 := n6_; have NB410_408 := n7_; have NB409_410 := n8_; have NB410_409 := n9_; clear n0_ n1_ n2_ n3_ n4_ n5_ n6_ n7_ n8_ n9_; clear hb hbox hg))
 (try simp only [Act.put, setIfInBounds_toArray, set_cons_zero, set_cons_succ])
 go_cut [16] (fun v16 wc => ∃ (kq : Nat) (x16_2 : Bool), v16 = .bool x16_2 ∧ Aside0 (impl_Hull.j0 kq x16_2 a0_0 a0_1 a0_2 a0_3 a0_4 a0_5 a0_6 a0_7 a1_0 a1_1 a1_2 a1_3 a1_4 a1_5 a1_6 a1_7 = some (r1, r2, r3, r4, r5, r6, r7, r8)) ∧ Aside0 (kq ≤ k) ∧ Aside0 (wc.heap[gb408]? = some (.cells #[.int .i64 a0_0, .int .i64 a0_1, .bool a0_2, .bool a0_3, .int .i64 a0_4, .int .i64 a0_5, .bool a0_6, .bool a0_7] 26 (0, 0))) ∧ Aside0 (wc.heap[gb409]? = some (.cells #[.int .i64 a1_0, .int .i64 a1_1, .bool a1_2, .bool a1_3, .int .i64 a1_4, .int .i64 a1_5, .bool a1_6, .bool a1_7] 26 (0, 0))) ∧ Aside0 (wc.heap[gb410]? = some (.cells #[.int .i64 0, .int .i64 0, .bool false, .bool false, .int .i64 0, .int .i64 0, .bool false, .bool false] 26 (0, 0))) ∧ Aside0 (Below w.heap.size w wc))
 case first =>
  have H := HC3.out
  clear HC3
  replace H := Option.bind_eq_some_iff.mp H
  obtain ⟨t411, A70, H⟩ := H
  replace H : (if t411 = true then ((impl_GoodArea.f a1_0 a1_1 a1_2 a1_3 a1_4 a1_5 a1_6 a1_7).bind fun t412 => (impl_Hull.j0 k (!t412) a0_0 a0_1 a0_2 a0_3 a0_4 a0_5 a0_6 a0_7 a1_0 a1_1 a1_2 a1_3 a1_4 a1_5 a1_6 a1_7)) else (impl_Hull.j0 k true a0_0 a0_1 a0_2 a0_3 a0_4 a0_5 a0_6 a0_7 a1_0 a1_1 a1_2 a1_3 a1_4 a1_5 a1_6 a1_7)) = some (r1, r2, r3, r4, r5, r6, r7, r8) := H
  have A7 := Aside0.mk A70
  clear A70
  by_cases c8 : t411 = true
  ·subst c8
   have H1 : ((impl_GoodArea.f a1_0 a1_1 a1_2 a1_3 a1_4 a1_5 a1_6 a1_7).bind fun t412 => (impl_Hull.j0 k (!t412) a0_0 a0_1 a0_2 a0_3 a0_4 a0_5 a0_6 a0_7 a1_0 a1_1 a1_2 a1_3 a1_4 a1_5 a1_6 a1_7)) = some (r1, r2, r3, r4, r5, r6, r7, r8) := by rw [if_pos rfl] at H; exact H
   clear H
   have H := H1
   clear H1
   replace H := Option.bind_eq_some_iff.mp H
   obtain ⟨t412, A90, H⟩ := H
   replace H : (impl_Hull.j0 k (!t412) a0_0 a0_1 a0_2 a0_3 a0_4 a0_5 a0_6 a0_7 a1_0 a1_1 a1_2 a1_3 a1_4 a1_5 a1_6 a1_7) = some (r1, r2, r3, r4, r5, r6, r7, r8) := H
   have A9 := Aside0.mk A90
   clear A90
   have H' := Aside0.mk H
   clear H
   have hnb10 := NB408_409.out
   have hnc10 := NB409_408.out
   have hnb11 := NB408_410.out
   have hnc11 := NB410_408.out
   have hcz12_0 : w6.cell? ⟨gb408, 0, none⟩ = some (.int .i64 a0_0) := (z0q BK408.out 0).trans rfl
   have hcz12_1 : w6.cell? ⟨gb408, 1, none⟩ = some (.int .i64 a0_1) := (z0q BK408.out 1).trans rfl
   have hcz12_2 : w6.cell? ⟨gb408, 2, none⟩ = some (.bool a0_2) := (z0q BK408.out 2).trans rfl
   have hcz12_3 : w6.cell? ⟨gb408, 3, none⟩ = some (.bool a0_3) := (z0q BK408.out 3).trans rfl
   have hcz12_4 : w6.cell? ⟨gb408, 4, none⟩ = some (.int .i64 a0_4) := (z0q BK408.out 4).trans rfl
   have hcz12_5 : w6.cell? ⟨gb408, 5, none⟩ = some (.int .i64 a0_5) := (z0q BK408.out 5).trans rfl
   have hcz12_6 : w6.cell? ⟨gb408, 6, none⟩ = some (.bool a0_6) := (z0q BK408.out 6).trans rfl
   have hcz12_7 : w6.cell? ⟨gb408, 7, none⟩ = some (.bool a0_7) := (z0q BK408.out 7).trans rfl
   have hfz12_0 := z1q BK408.out 0
   have hfz12_1 := z1q BK408.out 1
   have hfz12_2 := z1q BK408.out 2
   have hfz12_3 := z1q BK408.out 3
   have hfz12_4 := z1q BK408.out 4
   have hfz12_5 := z1q BK408.out 5
   have hfz12_6 := z1q BK408.out 6
   have hfz12_7 := z1q BK408.out 7
   go_wp2_with (first | ((with_reducible refine z15q (f := 15) rfl ?_); refine z23q (some 10) rfl rfl Try.func15 (by kernel_rfl) rfl #[.agg #[.int .i64 a0_0, .int .i64 a0_1, .bool a0_2, .bool a0_3, .int .i64 a0_4, .int .i64 a0_5, .bool a0_6, .bool a0_7]] rfl (by (try simp only [map_toArray, map_cons, map_nil]); first | done | rfl | (simp only [length_drop, length_take]; rfl)) ?_; (with_reducible refine (impl_GoodArea.calls a0_0 a0_1 a0_2 a0_3 a0_4 a0_5 a0_6 a0_7 true _ A7.out).mono ?_); rintro e w13 ⟨rfl, hb⟩; refine ⟨_, rfl, ?_⟩; have n0_ := Aside0.mk (z2q (cy BK408.out) hb); have n1_ := Aside0.mk (z2q (cy BK409.out) hb); have n2_ := Aside0.mk (z2q (cy BK410.out) hb); have n3_ := Aside0.mk (z8q (ibh HB.out) hb); clear BK408; clear BK409; clear BK410; clear HB; have BK408 := n0_; have BK409 := n1_; have BK410 := n2_; have HB := n3_; clear n0_ n1_ n2_ n3_; (try clear hb); (try clear hb2); (try clear hk); (try clear hi); have hnb14 := NB409_410.out; have hnc14 := NB410_409.out; have hcz15_0 : w13.cell? ⟨gb409, 0, none⟩ = some (.int .i64 a1_0) := (z0q BK409.out 0).trans rfl; have hcz15_1 : w13.cell? ⟨gb409, 1, none⟩ = some (.int .i64 a1_1) := (z0q BK409.out 1).trans rfl; have hcz15_2 : w13.cell? ⟨gb409, 2, none⟩ = some (.bool a1_2) := (z0q BK409.out 2).trans rfl; have hcz15_3 : w13.cell? ⟨gb409, 3, none⟩ = some (.bool a1_3) := (z0q BK409.out 3).trans rfl; have hcz15_4 : w13.cell? ⟨gb409, 4, none⟩ = some (.int .i64 a1_4) := (z0q BK409.out 4).trans rfl; have hcz15_5 : w13.cell? ⟨gb409, 5, none⟩ = some (.int .i64 a1_5) := (z0q BK409.out 5).trans rfl; have hcz15_6 : w13.cell? ⟨gb409, 6, none⟩ = some (.bool a1_6) := (z0q BK409.out 6).trans rfl; have hcz15_7 : w13.cell? ⟨gb409, 7, none⟩ = some (.bool a1_7) := (z0q BK409.out 7).trans rfl; have hfz15_0 := z1q BK409.out 0; have hfz15_1 := z1q BK409.out 1; have hfz15_2 := z1q BK409.out 2; have hfz15_3 := z1q BK409.out 3; have hfz15_4 := z1q BK409.out 4; have hfz15_5 := z1q BK409.out 5; have hfz15_6 := z1q BK409.out 6; have hfz15_7 := z1q BK409.out 7) | (go_at_call 15; (with_reducible refine (impl_GoodArea.calls a1_0 a1_1 a1_2 a1_3 a1_4 a1_5 a1_6 a1_7 t412 _ A9.out).mono ?_); rintro e w16 ⟨rfl, hb⟩; have n0_ := Aside0.mk (z2q (cy BK408.out) hb); have n1_ := Aside0.mk (z2q (cy BK409.out) hb); have n2_ := Aside0.mk (z2q (cy BK410.out) hb); have n3_ := Aside0.mk (z8q (ibh HB.out) hb); clear BK408; clear BK409; clear BK410; clear HB; have BK408 := n0_; have BK409 := n1_; have BK410 := n2_; have HB := n3_; clear n0_ n1_ n2_ n3_; (try clear hb); (try clear hb2); (try clear hk); (try clear hi)))
   go_meet
   case rel => exact ⟨_, (!t412), (by first | rfl | (simp; done) | (simp [*]; done) | (simp; unfold wrap64; omega)), H', ⟨by first | omega | exact Nat.le_refl _⟩, ⟨by (with_reducible repeat (first | refine z11q ?_ _ | refine z10q ?_ | refine z4q ?_ _)); exact BK408.out⟩, ⟨by (with_reducible repeat (first | refine z11q ?_ _ | refine z10q ?_ | refine z4q ?_ _)); exact BK409.out⟩, ⟨by (with_reducible repeat (first | refine z11q ?_ _ | refine z10q ?_ | refine z4q ?_ _)); exact BK410.out⟩, ⟨by repeat (first | (with_reducible first | exact HB.out | apply z7q | apply z5q | apply z12q | refine z3q ?_ GE408.out | refine z3q ?_ GE409.out | refine z3q ?_ GE410.out) | exact HB.out)⟩⟩
  ·replace c8 := Bool.eq_false_iff.mpr c8
   subst c8
   have H1 : (impl_Hull.j0 k true a0_0 a0_1 a0_2 a0_3 a0_4 a0_5 a0_6 a0_7 a1_0 a1_1 a1_2 a1_3 a1_4 a1_5 a1_6 a1_7) = some (r1, r2, r3, r4, r5, r6, r7, r8) := by rw [if_neg (show ¬ (false = true) by decide)] at H; exact H
   clear H
   have H := H1
   clear H1
   have H' := Aside0.mk H
   clear H
   have hnb17 := NB408_409.out
   have hnc17 := NB409_408.out
   have hnb18 := NB408_410.out
   have hnc18 := NB410_408.out
   have hcz19_0 : w6.cell? ⟨gb408, 0, none⟩ = some (.int .i64 a0_0) := (z0q BK408.out 0).trans rfl
   have hcz19_1 : w6.cell? ⟨gb408, 1, none⟩ = some (.int .i64 a0_1) := (z0q BK408.out 1).trans rfl
   have hcz19_2 : w6.cell? ⟨gb408, 2, none⟩ = some (.bool a0_2) := (z0q BK408.out 2).trans rfl
   have hcz19_3 : w6.cell? ⟨gb408, 3, none⟩ = some (.bool a0_3) := (z0q BK408.out 3).trans rfl
   have hcz19_4 : w6.cell? ⟨gb408, 4, none⟩ = some (.int .i64 a0_4) := (z0q BK408.out 4).trans rfl
   have hcz19_5 : w6.cell? ⟨gb408, 5, none⟩ = some (.int .i64 a0_5) := (z0q BK408.out 5).trans rfl
   have hcz19_6 : w6.cell? ⟨gb408, 6, none⟩ = some (.bool a0_6) := (z0q BK408.out 6).trans rfl
   have hcz19_7 : w6.cell? ⟨gb408, 7, none⟩ = some (.bool a0_7) := (z0q BK408.out 7).trans rfl
   have hfz19_0 := z1q BK408.out 0
   have hfz19_1 := z1q BK408.out 1
   have hfz19_2 := z1q BK408.out 2
   have hfz19_3 := z1q BK408.out 3
   have hfz19_4 := z1q BK408.out 4
   have hfz19_5 := z1q BK408.out 5
   have hfz19_6 := z1q BK408.out 6
   have hfz19_7 := z1q BK408.out 7
   go_wp2_with (first | ((with_reducible refine z15q (f := 15) rfl ?_); refine z23q (some 10) rfl rfl Try.func15 (by kernel_rfl) rfl #[.agg #[.int .i64 a0_0, .int .i64 a0_1, .bool a0_2, .bool a0_3, .int .i64 a0_4, .int .i64 a0_5, .bool a0_6, .bool a0_7]] rfl (by (try simp only [map_toArray, map_cons, map_nil]); first | done | rfl | (simp only [length_drop, length_take]; rfl)) ?_; (with_reducible refine (impl_GoodArea.calls a0_0 a0_1 a0_2 a0_3 a0_4 a0_5 a0_6 a0_7 false _ A7.out).mono ?_); rintro e w20 ⟨rfl, hb⟩; refine ⟨_, rfl, ?_⟩; have n0_ := Aside0.mk (z2q (cy BK408.out) hb); have n1_ := Aside0.mk (z2q (cy BK409.out) hb); have n2_ := Aside0.mk (z2q (cy BK410.out) hb); have n3_ := Aside0.mk (z8q (ibh HB.out) hb); clear BK408; clear BK409; clear BK410; clear HB; have BK408 := n0_; have BK409 := n1_; have BK410 := n2_; have HB := n3_; clear n0_ n1_ n2_ n3_; (try clear hb); (try clear hb2); (try clear hk); (try clear hi)))
   go_meet
   case rel => exact ⟨_, (true), (by first | rfl | (simp; done) | (simp [*]; done) | (simp; unfold wrap64; omega)), H', ⟨by first | omega | exact Nat.le_refl _⟩, ⟨by (with_reducible repeat (first | refine z11q ?_ _ | refine z10q ?_ | refine z4q ?_ _)); exact BK408.out⟩, ⟨by (with_reducible repeat (first | refine z11q ?_ _ | refine z10q ?_ | refine z4q ?_ _)); exact BK409.out⟩, ⟨by (with_reducible repeat (first | refine z11q ?_ _ | refine z10q ?_ | refine z4q ?_ _)); exact BK410.out⟩, ⟨by repeat (first | (with_reducible first | exact HB.out | apply z7q | apply z5q | apply z12q | refine z3q ?_ GE408.out | refine z3q ?_ GE409.out | refine z3q ?_ GE410.out) | exact HB.out)⟩⟩
 case rest =>
  clear HC3
  try clear c1
  try clear p2
  try clear c8
  try clear c10
  try clear c11
  try clear c14
  try clear c15
  try clear c17
  try clear c18
  try clear hcz12_0
  try clear hcz12_1
  try clear hcz12_2
  try clear hcz12_3
  try clear hcz12_4
  try clear hcz12_5
  try clear hcz12_6
  try clear hcz12_7
  try clear hcz15_0
  try clear hcz15_1
  try clear hcz15_2
  try clear hcz15_3
  try clear hcz15_4
  try clear hcz15_5
  try clear hcz15_6
  try clear hcz15_7
  try clear hcz19_0
  try clear hcz19_1
  try clear hcz19_2
  try clear hcz19_3
  try clear hcz19_4
  try clear hcz19_5
  try clear hcz19_6
  try clear hcz19_7
  try clear hfz12_0
  try clear hfz12_1
  try clear hfz12_2
  try clear hfz12_3
  try clear hfz12_4
  try clear hfz12_5
  try clear hfz12_6
  try clear hfz12_7
  try clear hfz15_0
  try clear hfz15_1
  try clear hfz15_2
  try clear hfz15_3
  try clear hfz15_4
  try clear hfz15_5
  try clear hfz15_6
  try clear hfz15_7
  try clear hfz19_0
  try clear hfz19_1
  try clear hfz19_2
  try clear hfz19_3
  try clear hfz19_4
  try clear hfz19_5
  try clear hfz19_6
  try clear hfz19_7
  obtain ⟨kq, x16_2, rfl, HA, HJ2, BK408, BK409, BK410, HB⟩ := hcut
  cases kq with
  | zero => exact absurd HA.out (by simp [impl_Hull.j0])
  | succ kj2 =>
   have H := HA.out
   clear HA
   simp only [impl_Hull.j0] at H
   by_cases c21 : x16_2 = true
   ·subst c21
    have H1 : (some (0, 0, false, false, 0, 0, false, false)) = some (r1, r2, r3, r4, r5, r6, r7, r8) := by rw [if_pos rfl] at H; exact H
    clear H
    have H := H1
    clear H1
    simp only [Option.some.injEq, Prod.mk.injEq] at H
    obtain ⟨rfl, rfl, rfl, rfl, rfl, rfl, rfl, rfl⟩ := H
    have hnb22 := NB410_408.out
    have hnc22 := NB408_410.out
    have hnb23 := NB410_409.out
    have hnc23 := NB409_410.out
    have hcz24_0 : wc.cell? ⟨gb410, 0, none⟩ = some (.int .i64 0) := (z0q BK410.out 0).trans rfl
    have hcz24_1 : wc.cell? ⟨gb410, 1, none⟩ = some (.int .i64 0) := (z0q BK410.out 1).trans rfl
    have hcz24_2 : wc.cell? ⟨gb410, 2, none⟩ = some (.bool false) := (z0q BK410.out 2).trans rfl
    have hcz24_3 : wc.cell? ⟨gb410, 3, none⟩ = some (.bool false) := (z0q BK410.out 3).trans rfl
    have hcz24_4 : wc.cell? ⟨gb410, 4, none⟩ = some (.int .i64 0) := (z0q BK410.out 4).trans rfl
    have hcz24_5 : wc.cell? ⟨gb410, 5, none⟩ = some (.int .i64 0) := (z0q BK410.out 5).trans rfl
    have hcz24_6 : wc.cell? ⟨gb410, 6, none⟩ = some (.bool false) := (z0q BK410.out 6).trans rfl
    have hcz24_7 : wc.cell? ⟨gb410, 7, none⟩ = some (.bool false) := (z0q BK410.out 7).trans rfl
    have hfz24_0 := z1q BK410.out 0
    have hfz24_1 := z1q BK410.out 1
    have hfz24_2 := z1q BK410.out 2
    have hfz24_3 := z1q BK410.out 3
    have hfz24_4 := z1q BK410.out 4
    have hfz24_5 := z1q BK410.out 5
    have hfz24_6 := z1q BK410.out 6
    have hfz24_7 := z1q BK410.out 7
    go_wp2
    refine bodyPost_ret (results_cell_row rfl _ _ gb410 26 #[.int .i64 0, .int .i64 0, .bool false, .bool false, .int .i64 0, .int .i64 0, .bool false, .bool false] (0, 0) _ rfl (by refine cz ?_; refine z6q (cs := #[.int .i64 0, .int .i64 0, .bool false, .bool false, .int .i64 0, .int .i64 0, .bool false, .bool false]) ?_ 7 _ rfl; refine cz ?_; refine z6q (cs := #[.int .i64 0, .int .i64 0, .bool false, .bool false, .int .i64 0, .int .i64 0, .bool false, .bool false]) ?_ 6 _ rfl; refine cz ?_; refine z6q (cs := #[.int .i64 0, .int .i64 0, .bool false, .bool false, .int .i64 0, .int .i64 0, .bool false, .bool false]) ?_ 5 _ rfl; refine cz ?_; refine z6q (cs := #[.int .i64 0, .int .i64 0, .bool false, .bool false, .int .i64 0, .int .i64 0, .bool false, .bool false]) ?_ 4 _ rfl; refine cz ?_; refine z6q (cs := #[.int .i64 0, .int .i64 0, .bool false, .bool false, .int .i64 0, .int .i64 0, .bool false, .bool false]) ?_ 3 _ rfl; refine cz ?_; refine z6q (cs := #[.int .i64 0, .int .i64 0, .bool false, .bool false, .int .i64 0, .int .i64 0, .bool false, .bool false]) ?_ 2 _ rfl; refine cz ?_; refine z6q (cs := #[.int .i64 0, .int .i64 0, .bool false, .bool false, .int .i64 0, .int .i64 0, .bool false, .bool false]) ?_ 1 _ rfl; refine cz ?_; refine z6q (cs := #[.int .i64 0, .int .i64 0, .bool false, .bool false, .int .i64 0, .int .i64 0, .bool false, .bool false]) ?_ 0 _ rfl; exact cy BK410.out) Try.underlying26 rfl (by kernel_rfl)) rfl ?_
    exact ⟨by first | rfl | (simp [errW_none, errW_some] <;> rfl) | (simp [*, errW_none, errW_some] <;> rfl), by repeat (first | (with_reducible first | exact HB.out | apply z7q | apply z5q | apply z12q | refine z3q ?_ GE408.out | refine z3q ?_ GE409.out | refine z3q ?_ GE410.out) | exact HB.out)⟩
   ·replace c21 := Bool.eq_false_iff.mpr c21
    subst c21
    have H1 : ((impl_Area_block.f a0_0 a0_1 a0_2 a0_3 a0_4 a0_5 a0_6 a0_7).bind fun bt413 => ((impl_Area_block.f a1_0 a1_1 a1_2 a1_3 a1_4 a1_5 a1_6 a1_7).bind fun bt418 => ((impl_blockOf.f (mn bt413.1 bt418.1) (mn bt413.2.1 bt418.2.1) (mx bt413.2.2.1 bt418.2.2.1) (mx bt413.2.2.2 bt418.2.2.2)).bind fun bt423 => ((impl_block_area.f bt423.1 bt423.2.1 bt423.2.2.1 bt423.2.2.2.1).bind fun bt429 => (some (bt429.1, bt429.2.1, bt429.2.2.1, bt429.2.2.2.1, bt429.2.2.2.2.1, bt429.2.2.2.2.2.1, bt429.2.2.2.2.2.2.1, bt429.2.2.2.2.2.2.2)))))) = some (r1, r2, r3, r4, r5, r6, r7, r8) := by rw [if_neg (show ¬ (false = true) by decide)] at H; exact H
    clear H
    have H := H1
    clear H1
    replace H := Option.bind_eq_some_iff.mp H
    obtain ⟨⟨t413, t414, t415, t416⟩, A250, H⟩ := H
    replace H : ((impl_Area_block.f a1_0 a1_1 a1_2 a1_3 a1_4 a1_5 a1_6 a1_7).bind fun bt418 => ((impl_blockOf.f (mn t413 bt418.1) (mn t414 bt418.2.1) (mx t415 bt418.2.2.1) (mx t416 bt418.2.2.2)).bind fun bt423 => ((impl_block_area.f bt423.1 bt423.2.1 bt423.2.2.1 bt423.2.2.2.1).bind fun bt429 => (some (bt429.1, bt429.2.1, bt429.2.2.1, bt429.2.2.2.1, bt429.2.2.2.2.1, bt429.2.2.2.2.2.1, bt429.2.2.2.2.2.2.1, bt429.2.2.2.2.2.2.2))))) = some (r1, r2, r3, r4, r5, r6, r7, r8) := H
    have A25 := Aside0.mk A250
    clear A250
    replace H := Option.bind_eq_some_iff.mp H
    obtain ⟨⟨t418, t419, t420, t421⟩, A260, H⟩ := H
    replace H : ((impl_blockOf.f (mn t413 t418) (mn t414 t419) (mx t415 t420) (mx t416 t421)).bind fun bt423 => ((impl_block_area.f bt423.1 bt423.2.1 bt423.2.2.1 bt423.2.2.2.1).bind fun bt429 => (some (bt429.1, bt429.2.1, bt429.2.2.1, bt429.2.2.2.1, bt429.2.2.2.2.1, bt429.2.2.2.2.2.1, bt429.2.2.2.2.2.2.1, bt429.2.2.2.2.2.2.2)))) = some (r1, r2, r3, r4, r5, r6, r7, r8) := H
    have A26 := Aside0.mk A260
    clear A260
    obtain ⟨ji27, hji27⟩ : ∃ j_ : Int, (mn t413 t418) = j_ := ⟨_, rfl⟩
    replace H : ((impl_blockOf.f (ji27) (mn t414 t419) (mx t415 t420) (mx t416 t421)).bind fun bt423 => ((impl_block_area.f bt423.1 bt423.2.1 bt423.2.2.1 bt423.2.2.2.1).bind fun bt429 => (some (bt429.1, bt429.2.1, bt429.2.2.1, bt429.2.2.2.1, bt429.2.2.2.2.1, bt429.2.2.2.2.2.1, bt429.2.2.2.2.2.2.1, bt429.2.2.2.2.2.2.2)))) = some (r1, r2, r3, r4, r5, r6, r7, r8) := by first | (rw [hji27] at H; exact H) | (simp only [hji27] at H ⊢; exact H)
    (try rw [hji27] at A25)
    (try rw [hji27] at A26)
    have hji27_ : (if t418 < t413 then t418 else t413) = ji27 := hji27
    obtain ⟨ji28, hji28⟩ : ∃ j_ : Int, (mn t414 t419) = j_ := ⟨_, rfl⟩
    replace H : ((impl_blockOf.f (ji27) (ji28) (mx t415 t420) (mx t416 t421)).bind fun bt423 => ((impl_block_area.f bt423.1 bt423.2.1 bt423.2.2.1 bt423.2.2.2.1).bind fun bt429 => (some (bt429.1, bt429.2.1, bt429.2.2.1, bt429.2.2.2.1, bt429.2.2.2.2.1, bt429.2.2.2.2.2.1, bt429.2.2.2.2.2.2.1, bt429.2.2.2.2.2.2.2)))) = some (r1, r2, r3, r4, r5, r6, r7, r8) := by first | (rw [hji28] at H; exact H) | (simp only [hji28] at H ⊢; exact H)
    (try rw [hji28] at A25)
    (try rw [hji28] at A26)
    have hji28_ : (if t419 < t414 then t419 else t414) = ji28 := hji28
    obtain ⟨ji29, hji29⟩ : ∃ j_ : Int, (mx t415 t420) = j_ := ⟨_, rfl⟩
    replace H : ((impl_blockOf.f (ji27) (ji28) (ji29) (mx t416 t421)).bind fun bt423 => ((impl_block_area.f bt423.1 bt423.2.1 bt423.2.2.1 bt423.2.2.2.1).bind fun bt429 => (some (bt429.1, bt429.2.1, bt429.2.2.1, bt429.2.2.2.1, bt429.2.2.2.2.1, bt429.2.2.2.2.2.1, bt429.2.2.2.2.2.2.1, bt429.2.2.2.2.2.2.2)))) = some (r1, r2, r3, r4, r5, r6, r7, r8) := by first | (rw [hji29] at H; exact H) | (simp only [hji29] at H ⊢; exact H)
    (try rw [hji29] at A25)
    (try rw [hji29] at A26)
    have hji29_ : (if t415 < t420 then t420 else t415) = ji29 := hji29
    obtain ⟨ji30, hji30⟩ : ∃ j_ : Int, (mx t416 t421) = j_ := ⟨_, rfl⟩
    replace H : ((impl_blockOf.f (ji27) (ji28) (ji29) (ji30)).bind fun bt423 => ((impl_block_area.f bt423.1 bt423.2.1 bt423.2.2.1 bt423.2.2.2.1).bind fun bt429 => (some (bt429.1, bt429.2.1, bt429.2.2.1, bt429.2.2.2.1, bt429.2.2.2.2.1, bt429.2.2.2.2.2.1, bt429.2.2.2.2.2.2.1, bt429.2.2.2.2.2.2.2)))) = some (r1, r2, r3, r4, r5, r6, r7, r8) := by first | (rw [hji30] at H; exact H) | (simp only [hji30] at H ⊢; exact H)
    (try rw [hji30] at A25)
    (try rw [hji30] at A26)
    have hji30_ : (if t416 < t421 then t421 else t416) = ji30 := hji30
    replace H := Option.bind_eq_some_iff.mp H
    obtain ⟨⟨t423, t424, t425, t426, t427⟩, A310, H⟩ := H
    replace H : ((impl_block_area.f t423 t424 t425 t426).bind fun bt429 => (some (bt429.1, bt429.2.1, bt429.2.2.1, bt429.2.2.2.1, bt429.2.2.2.2.1, bt429.2.2.2.2.2.1, bt429.2.2.2.2.2.2.1, bt429.2.2.2.2.2.2.2))) = some (r1, r2, r3, r4, r5, r6, r7, r8) := H
    have A31 := Aside0.mk A310
    clear A310
    replace H := Option.bind_eq_some_iff.mp H
    obtain ⟨⟨t429, t430, t431, t432, t433, t434, t435, t436⟩, A320, H⟩ := H
    replace H : (some (t429, t430, t431, t432, t433, t434, t435, t436)) = some (r1, r2, r3, r4, r5, r6, r7, r8) := H
    have A32 := Aside0.mk A320
    clear A320
    simp only [Option.some.injEq, Prod.mk.injEq] at H
    obtain ⟨rfl, rfl, rfl, rfl, rfl, rfl, rfl, rfl⟩ := H
    have hnb33 := NB408_409.out
    have hnc33 := NB409_408.out
    have hnb34 := NB408_410.out
    have hnc34 := NB410_408.out
    have hcz35_0 : wc.cell? ⟨gb408, 0, none⟩ = some (.int .i64 a0_0) := (z0q BK408.out 0).trans rfl
    have hcz35_1 : wc.cell? ⟨gb408, 1, none⟩ = some (.int .i64 a0_1) := (z0q BK408.out 1).trans rfl
    have hcz35_2 : wc.cell? ⟨gb408, 2, none⟩ = some (.bool a0_2) := (z0q BK408.out 2).trans rfl
    have hcz35_3 : wc.cell? ⟨gb408, 3, none⟩ = some (.bool a0_3) := (z0q BK408.out 3).trans rfl
    have hcz35_4 : wc.cell? ⟨gb408, 4, none⟩ = some (.int .i64 a0_4) := (z0q BK408.out 4).trans rfl
    have hcz35_5 : wc.cell? ⟨gb408, 5, none⟩ = some (.int .i64 a0_5) := (z0q BK408.out 5).trans rfl
    have hcz35_6 : wc.cell? ⟨gb408, 6, none⟩ = some (.bool a0_6) := (z0q BK408.out 6).trans rfl
    have hcz35_7 : wc.cell? ⟨gb408, 7, none⟩ = some (.bool a0_7) := (z0q BK408.out 7).trans rfl
    have hfz35_0 := z1q BK408.out 0
    have hfz35_1 := z1q BK408.out 1
    have hfz35_2 := z1q BK408.out 2
    have hfz35_3 := z1q BK408.out 3
    have hfz35_4 := z1q BK408.out 4
    have hfz35_5 := z1q BK408.out 5
    have hfz35_6 := z1q BK408.out 6
    have hfz35_7 := z1q BK408.out 7
    go_wp2_with (first | ((with_reducible refine z15q (f := 16) rfl ?_); refine z23q (some 19) rfl rfl Try.func16 (by kernel_rfl) rfl #[.agg #[.int .i64 a0_0, .int .i64 a0_1, .bool a0_2, .bool a0_3, .int .i64 a0_4, .int .i64 a0_5, .bool a0_6, .bool a0_7]] rfl (by (try simp only [map_toArray, map_cons, map_nil]); first | done | rfl | (simp only [length_drop, length_take]; rfl)) ?_; (with_reducible refine (impl_Area_block.calls a0_0 a0_1 a0_2 a0_3 a0_4 a0_5 a0_6 a0_7 t413 t414 t415 t416 _ A25.out).mono ?_); rintro e w36 ⟨rfl, hb⟩; refine ⟨_, rfl, ?_⟩; have n0_ := Aside0.mk (z2q (cy BK408.out) hb); have n1_ := Aside0.mk (z2q (cy BK409.out) hb); have n2_ := Aside0.mk (z2q (cy BK410.out) hb); have n3_ := Aside0.mk (z8q (ibh HB.out) hb); clear BK408; clear BK409; clear BK410; clear HB; have BK408 := n0_; have BK409 := n1_; have BK410 := n2_; have HB := n3_; clear n0_ n1_ n2_ n3_; (try clear hb); (try clear hb2); (try clear hk); (try clear hi)) | ((with_reducible refine z22q (N := 5) rfl ?_); refine z20q ?hg (N := 5) ?hd (cs := #[.int .i64 0, .int .i64 0, .int .i64 0, .int .i64 0]) (t := 41) ?hr ?_; (case hd => rfl); (case hg => rfl); (case hr => first | (go_simp; done) | (go_simp; rfl)); intro gb417 hg w37 hbox hb; have n0_ := Aside0.mk (z2q (cy BK408.out) hb); have n1_ := Aside0.mk (z2q (cy BK409.out) hb); have n2_ := Aside0.mk (z2q (cy BK410.out) hb); have n3_ := Aside0.mk (z8q (ibh HB.out) hb); have n4_ := Aside0.mk (hbox); have n5_ := Aside0.mk ((by rw [hg]; exact (z13q (ibh HB.out)) : w.heap.size ≤ gb417)); have n6_ := Aside0.mk ((by rw [hg]; exact (z13q (ibh HB.out)) : w.heap.size ≤ gb417)); have n7_ := Aside0.mk ((by rw [hg]; exact Nat.ne_of_lt (z14q (cy BK408.out)) : gb408 ≠ gb417)); have n8_ := Aside0.mk ((by rw [hg]; exact Nat.ne_of_gt (z14q (cy BK408.out)) : gb417 ≠ gb408)); have n9_ := Aside0.mk ((by rw [hg]; exact Nat.ne_of_lt (z14q (cy BK409.out)) : gb409 ≠ gb417)); have n10_ := Aside0.mk ((by rw [hg]; exact Nat.ne_of_gt (z14q (cy BK409.out)) : gb417 ≠ gb409)); have n11_ := Aside0.mk ((by rw [hg]; exact Nat.ne_of_lt (z14q (cy BK410.out)) : gb410 ≠ gb417)); have n12_ := Aside0.mk ((by rw [hg]; exact Nat.ne_of_gt (z14q (cy BK410.out)) : gb417 ≠ gb410)); clear BK408; clear BK409; clear BK410; clear HB; have BK408 := n0_; have BK409 := n1_; have BK410 := n2_; have HB := n3_; have BK417 := n4_; have GW417 := n5_; have GE417 := n6_; have NB408_417 := n7_; have NB417_408 := n8_; have NB409_417 := n9_; have NB417_409 := n10_; have NB410_417 := n11_; have NB417_410 := n12_; clear n0_ n1_ n2_ n3_ n4_ n5_ n6_ n7_ n8_ n9_ n10_ n11_ n12_; clear hb hbox hg; have hnb38 := NB417_408.out; have hnc38 := NB408_417.out; have hnb39 := NB417_409.out; have hnc39 := NB409_417.out; have hnb40 := NB417_410.out; have hnc40 := NB410_417.out; have hcz41_0 : w37.cell? ⟨gb417, 0, none⟩ = some (.int .i64 0) := (z0q BK417.out 0).trans rfl; have hcz41_1 : w37.cell? ⟨gb417, 1, none⟩ = some (.int .i64 0) := (z0q BK417.out 1).trans rfl; have hcz41_2 : w37.cell? ⟨gb417, 2, none⟩ = some (.int .i64 0) := (z0q BK417.out 2).trans rfl; have hcz41_3 : w37.cell? ⟨gb417, 3, none⟩ = some (.int .i64 0) := (z0q BK417.out 3).trans rfl; have hfz41_0 := z1q BK417.out 0; have hfz41_1 := z1q BK417.out 1; have hfz41_2 := z1q BK417.out 2; have hfz41_3 := z1q BK417.out 3; have hnb42 := NB409_410.out; have hnc42 := NB410_409.out; have hcz43_0 : w37.cell? ⟨gb409, 0, none⟩ = some (.int .i64 a1_0) := (z0q BK409.out 0).trans rfl; have hcz43_1 : w37.cell? ⟨gb409, 1, none⟩ = some (.int .i64 a1_1) := (z0q BK409.out 1).trans rfl; have hcz43_2 : w37.cell? ⟨gb409, 2, none⟩ = some (.bool a1_2) := (z0q BK409.out 2).trans rfl; have hcz43_3 : w37.cell? ⟨gb409, 3, none⟩ = some (.bool a1_3) := (z0q BK409.out 3).trans rfl; have hcz43_4 : w37.cell? ⟨gb409, 4, none⟩ = some (.int .i64 a1_4) := (z0q BK409.out 4).trans rfl; have hcz43_5 : w37.cell? ⟨gb409, 5, none⟩ = some (.int .i64 a1_5) := (z0q BK409.out 5).trans rfl; have hcz43_6 : w37.cell? ⟨gb409, 6, none⟩ = some (.bool a1_6) := (z0q BK409.out 6).trans rfl; have hcz43_7 : w37.cell? ⟨gb409, 7, none⟩ = some (.bool a1_7) := (z0q BK409.out 7).trans rfl; have hfz43_0 := z1q BK409.out 0; have hfz43_1 := z1q BK409.out 1; have hfz43_2 := z1q BK409.out 2; have hfz43_3 := z1q BK409.out 3; have hfz43_4 := z1q BK409.out 4; have hfz43_5 := z1q BK409.out 5; have hfz43_6 := z1q BK409.out 6; have hfz43_7 := z1q BK409.out 7) | ((with_reducible refine z15q (f := 16) rfl ?_); refine z23q (some 21) rfl rfl Try.func16 (by kernel_rfl) rfl #[.agg #[.int .i64 a1_0, .int .i64 a1_1, .bool a1_2, .bool a1_3, .int .i64 a1_4, .int .i64 a1_5, .bool a1_6, .bool a1_7]] rfl (by (try simp only [map_toArray, map_cons, map_nil]); first | done | rfl | (simp only [length_drop, length_take]; rfl)) ?_; (with_reducible refine (impl_Area_block.calls a1_0 a1_1 a1_2 a1_3 a1_4 a1_5 a1_6 a1_7 t418 t419 t420 t421 _ A26.out).mono ?_); rintro e w44 ⟨rfl, hb⟩; refine ⟨_, rfl, ?_⟩; have n0_ := Aside0.mk (z2q (cy BK408.out) hb); have n1_ := Aside0.mk (z2q (cy BK409.out) hb); have n2_ := Aside0.mk (z2q (cy BK410.out) hb); have n3_ := Aside0.mk (z2q (g := gb417) (o := .cells #[.int .i64 t413, .int .i64 t414, .int .i64 t415, .int .i64 t416] 41 (0, 0)) (by refine cz ?_; refine z6q (cs := #[.int .i64 t413, .int .i64 t414, .int .i64 t415, .int .i64 0]) ?_ 3 _ rfl; refine cz ?_; refine z6q (cs := #[.int .i64 t413, .int .i64 t414, .int .i64 0, .int .i64 0]) ?_ 2 _ rfl; refine cz ?_; refine z6q (cs := #[.int .i64 t413, .int .i64 0, .int .i64 0, .int .i64 0]) ?_ 1 _ rfl; refine cz ?_; refine z6q (cs := #[.int .i64 0, .int .i64 0, .int .i64 0, .int .i64 0]) ?_ 0 _ rfl; exact cy BK417.out) hb); have n4_ := Aside0.mk (z8q (ibh HB.out) hb); clear BK408; clear BK409; clear BK410; clear BK417; clear HB; have BK408 := n0_; have BK409 := n1_; have BK410 := n2_; have BK417 := n3_; have HB := n4_; clear n0_ n1_ n2_ n3_ n4_; (try clear hb); (try clear hb2); (try clear hk); (try clear hi)) | ((with_reducible refine z22q (N := 6) rfl ?_); refine z20q ?hg (N := 6) ?hd (cs := #[.int .i64 0, .int .i64 0, .int .i64 0, .int .i64 0]) (t := 41) ?hr ?_; (case hd => rfl); (case hg => rfl); (case hr => first | (go_simp; done) | (go_simp; rfl)); intro gb422 hg w45 hbox hb; have n0_ := Aside0.mk (z2q (cy BK408.out) hb); have n1_ := Aside0.mk (z2q (cy BK409.out) hb); have n2_ := Aside0.mk (z2q (cy BK410.out) hb); have n3_ := Aside0.mk (z2q (cy BK417.out) hb); have n4_ := Aside0.mk (z8q (ibh HB.out) hb); have n5_ := Aside0.mk (hbox); have n6_ := Aside0.mk ((by rw [hg]; exact (z13q (ibh HB.out)) : w.heap.size ≤ gb422)); have n7_ := Aside0.mk ((by rw [hg]; exact (z13q (ibh HB.out)) : w.heap.size ≤ gb422)); have n8_ := Aside0.mk ((by rw [hg]; exact Nat.ne_of_lt (z14q (cy BK408.out)) : gb408 ≠ gb422)); have n9_ := Aside0.mk ((by rw [hg]; exact Nat.ne_of_gt (z14q (cy BK408.out)) : gb422 ≠ gb408)); have n10_ := Aside0.mk ((by rw [hg]; exact Nat.ne_of_lt (z14q (cy BK409.out)) : gb409 ≠ gb422)); have n11_ := Aside0.mk ((by rw [hg]; exact Nat.ne_of_gt (z14q (cy BK409.out)) : gb422 ≠ gb409)); have n12_ := Aside0.mk ((by rw [hg]; exact Nat.ne_of_lt (z14q (cy BK410.out)) : gb410 ≠ gb422)); have n13_ := Aside0.mk ((by rw [hg]; exact Nat.ne_of_gt (z14q (cy BK410.out)) : gb422 ≠ gb410)); have n14_ := Aside0.mk ((by rw [hg]; exact Nat.ne_of_lt (z14q (cy BK417.out)) : gb417 ≠ gb422)); have n15_ := Aside0.mk ((by rw [hg]; exact Nat.ne_of_gt (z14q (cy BK417.out)) : gb422 ≠ gb417)); clear BK408; clear BK409; clear BK410; clear BK417; clear HB; have BK408 := n0_; have BK409 := n1_; have BK410 := n2_; have BK417 := n3_; have HB := n4_; have BK422 := n5_; have GW422 := n6_; have GE422 := n7_; have NB408_422 := n8_; have NB422_408 := n9_; have NB409_422 := n10_; have NB422_409 := n11_; have NB410_422 := n12_; have NB422_410 := n13_; have NB417_422 := n14_; have NB422_417 := n15_; clear n0_ n1_ n2_ n3_ n4_ n5_ n6_ n7_ n8_ n9_ n10_ n11_ n12_ n13_ n14_ n15_; clear hb hbox hg; have hnb46 := NB422_408.out; have hnc46 := NB408_422.out; have hnb47 := NB422_409.out; have hnc47 := NB409_422.out; have hnb48 := NB422_410.out; have hnc48 := NB410_422.out; have hnb49 := NB422_417.out; have hnc49 := NB417_422.out; have hcz50_0 : w45.cell? ⟨gb422, 0, none⟩ = some (.int .i64 0) := (z0q BK422.out 0).trans rfl; have hcz50_1 : w45.cell? ⟨gb422, 1, none⟩ = some (.int .i64 0) := (z0q BK422.out 1).trans rfl; have hcz50_2 : w45.cell? ⟨gb422, 2, none⟩ = some (.int .i64 0) := (z0q BK422.out 2).trans rfl; have hcz50_3 : w45.cell? ⟨gb422, 3, none⟩ = some (.int .i64 0) := (z0q BK422.out 3).trans rfl; have hfz50_0 := z1q BK422.out 0; have hfz50_1 := z1q BK422.out 1; have hfz50_2 := z1q BK422.out 2; have hfz50_3 := z1q BK422.out 3; have hcz51_0 : w45.cell? ⟨gb417, 0, none⟩ = some (.int .i64 t413) := (z0q BK417.out 0).trans rfl; have hcz51_1 : w45.cell? ⟨gb417, 1, none⟩ = some (.int .i64 t414) := (z0q BK417.out 1).trans rfl; have hcz51_2 : w45.cell? ⟨gb417, 2, none⟩ = some (.int .i64 t415) := (z0q BK417.out 2).trans rfl; have hcz51_3 : w45.cell? ⟨gb417, 3, none⟩ = some (.int .i64 t416) := (z0q BK417.out 3).trans rfl; have hfz51_0 := z1q BK417.out 0; have hfz51_1 := z1q BK417.out 1; have hfz51_2 := z1q BK417.out 2; have hfz51_3 := z1q BK417.out 3) | ((with_reducible refine z15q (f := 17) rfl ?_); refine z23q (some 47) rfl rfl Try.func17 (by kernel_rfl) rfl #[.int .i64 ji27, .int .i64 ji28, .int .i64 ji29, .int .i64 ji30] rfl (by (try simp only [map_toArray, map_cons, map_nil]); first | done | (simp only [hji27, hji28, hji29, hji30]; rfl) | rfl | (simp only [length_drop, length_take]; rfl)) ?_; (with_reducible refine (impl_blockOf.calls ji27 ji28 ji29 ji30 t423 t424 t425 t426 t427 _ A31.out).mono ?_); rintro e w52 ⟨rfl, hb⟩; refine ⟨_, rfl, ?_⟩; have n0_ := Aside0.mk (z2q (cy BK408.out) hb); have n1_ := Aside0.mk (z2q (cy BK409.out) hb); have n2_ := Aside0.mk (z2q (cy BK410.out) hb); have n3_ := Aside0.mk (z2q (cy BK417.out) hb); have n4_ := Aside0.mk (z2q (g := gb422) (o := .cells #[.int .i64 t418, .int .i64 t419, .int .i64 t420, .int .i64 t421] 41 (0, 0)) (by refine cz ?_; refine z6q (cs := #[.int .i64 t418, .int .i64 t419, .int .i64 t420, .int .i64 0]) ?_ 3 _ rfl; refine cz ?_; refine z6q (cs := #[.int .i64 t418, .int .i64 t419, .int .i64 0, .int .i64 0]) ?_ 2 _ rfl; refine cz ?_; refine z6q (cs := #[.int .i64 t418, .int .i64 0, .int .i64 0, .int .i64 0]) ?_ 1 _ rfl; refine cz ?_; refine z6q (cs := #[.int .i64 0, .int .i64 0, .int .i64 0, .int .i64 0]) ?_ 0 _ rfl; exact cy BK422.out) hb); have n5_ := Aside0.mk (z8q (ibh HB.out) hb); clear BK408; clear BK409; clear BK410; clear BK417; clear BK422; clear HB; have BK408 := n0_; have BK409 := n1_; have BK410 := n2_; have BK417 := n3_; have BK422 := n4_; have HB := n5_; clear n0_ n1_ n2_ n3_ n4_ n5_; (try clear hb); (try clear hb2); (try clear hk); (try clear hi)) | ((with_reducible refine z22q (N := 7) rfl ?_); refine z20q ?hg (N := 7) ?hd (cs := #[.int .i64 0, .int .i64 0, .int .i64 0, .int .i64 0]) (t := 41) ?hr ?_; (case hd => rfl); (case hg => rfl); (case hr => first | (go_simp; done) | (go_simp; rfl)); intro gb428 hg w53 hbox hb; have n0_ := Aside0.mk (z2q (cy BK408.out) hb); have n1_ := Aside0.mk (z2q (cy BK409.out) hb); have n2_ := Aside0.mk (z2q (cy BK410.out) hb); have n3_ := Aside0.mk (z2q (cy BK417.out) hb); have n4_ := Aside0.mk (z2q (cy BK422.out) hb); have n5_ := Aside0.mk (z8q (ibh HB.out) hb); have n6_ := Aside0.mk (hbox); have n7_ := Aside0.mk ((by rw [hg]; exact (z13q (ibh HB.out)) : w.heap.size ≤ gb428)); have n8_ := Aside0.mk ((by rw [hg]; exact (z13q (ibh HB.out)) : w.heap.size ≤ gb428)); have n9_ := Aside0.mk ((by rw [hg]; exact Nat.ne_of_lt (z14q (cy BK408.out)) : gb408 ≠ gb428)); have n10_ := Aside0.mk ((by rw [hg]; exact Nat.ne_of_gt (z14q (cy BK408.out)) : gb428 ≠ gb408)); have n11_ := Aside0.mk ((by rw [hg]; exact Nat.ne_of_lt (z14q (cy BK409.out)) : gb409 ≠ gb428)); have n12_ := Aside0.mk ((by rw [hg]; exact Nat.ne_of_gt (z14q (cy BK409.out)) : gb428 ≠ gb409)); have n13_ := Aside0.mk ((by rw [hg]; exact Nat.ne_of_lt (z14q (cy BK410.out)) : gb410 ≠ gb428)); have n14_ := Aside0.mk ((by rw [hg]; exact Nat.ne_of_gt (z14q (cy BK410.out)) : gb428 ≠ gb410)); have n15_ := Aside0.mk ((by rw [hg]; exact Nat.ne_of_lt (z14q (cy BK417.out)) : gb417 ≠ gb428)); have n16_ := Aside0.mk ((by rw [hg]; exact Nat.ne_of_gt (z14q (cy BK417.out)) : gb428 ≠ gb417)); have n17_ := Aside0.mk ((by rw [hg]; exact Nat.ne_of_lt (z14q (cy BK422.out)) : gb422 ≠ gb428)); have n18_ := Aside0.mk ((by rw [hg]; exact Nat.ne_of_gt (z14q (cy BK422.out)) : gb428 ≠ gb422)); clear BK408; clear BK409; clear BK410; clear BK417; clear BK422; clear HB; have BK408 := n0_; have BK409 := n1_; have BK410 := n2_; have BK417 := n3_; have BK422 := n4_; have HB := n5_; have BK428 := n6_; have GW428 := n7_; have GE428 := n8_; have NB408_428 := n9_; have NB428_408 := n10_; have NB409_428 := n11_; have NB428_409 := n12_; have NB410_428 := n13_; have NB428_410 := n14_; have NB417_428 := n15_; have NB428_417 := n16_; have NB422_428 := n17_; have NB428_422 := n18_; clear n0_ n1_ n2_ n3_ n4_ n5_ n6_ n7_ n8_ n9_ n10_ n11_ n12_ n13_ n14_ n15_ n16_ n17_ n18_; clear hb hbox hg; have hnb54 := NB428_408.out; have hnc54 := NB408_428.out; have hnb55 := NB428_409.out; have hnc55 := NB409_428.out; have hnb56 := NB428_410.out; have hnc56 := NB410_428.out; have hnb57 := NB428_417.out; have hnc57 := NB417_428.out; have hnb58 := NB428_422.out; have hnc58 := NB422_428.out; have hcz59_0 : w53.cell? ⟨gb428, 0, none⟩ = some (.int .i64 0) := (z0q BK428.out 0).trans rfl; have hcz59_1 : w53.cell? ⟨gb428, 1, none⟩ = some (.int .i64 0) := (z0q BK428.out 1).trans rfl; have hcz59_2 : w53.cell? ⟨gb428, 2, none⟩ = some (.int .i64 0) := (z0q BK428.out 2).trans rfl; have hcz59_3 : w53.cell? ⟨gb428, 3, none⟩ = some (.int .i64 0) := (z0q BK428.out 3).trans rfl; have hfz59_0 := z1q BK428.out 0; have hfz59_1 := z1q BK428.out 1; have hfz59_2 := z1q BK428.out 2; have hfz59_3 := z1q BK428.out 3) | ((with_reducible refine z15q (f := 18) rfl ?_); refine z23q (some 51) rfl rfl Try.func18 (by kernel_rfl) rfl #[.agg #[.int .i64 t423, .int .i64 t424, .int .i64 t425, .int .i64 t426]] rfl (by (try simp only [map_toArray, map_cons, map_nil]); first | done | rfl | (simp only [length_drop, length_take]; rfl)) ?_; (with_reducible refine (impl_block_area.calls t423 t424 t425 t426 t429 t430 t431 t432 t433 t434 t435 t436 _ A32.out).mono ?_); rintro e w60 ⟨rfl, hb⟩; refine ⟨_, rfl, ?_⟩; have n0_ := Aside0.mk (z2q (cy BK408.out) hb); have n1_ := Aside0.mk (z2q (cy BK409.out) hb); have n2_ := Aside0.mk (z2q (cy BK410.out) hb); have n3_ := Aside0.mk (z2q (cy BK417.out) hb); have n4_ := Aside0.mk (z2q (cy BK422.out) hb); have n5_ := Aside0.mk (z2q (g := gb428) (o := .cells #[.int .i64 t423, .int .i64 t424, .int .i64 t425, .int .i64 t426] 41 (0, 0)) (by refine cz ?_; refine z6q (cs := #[.int .i64 t423, .int .i64 t424, .int .i64 t425, .int .i64 0]) ?_ 3 _ rfl; refine cz ?_; refine z6q (cs := #[.int .i64 t423, .int .i64 t424, .int .i64 0, .int .i64 0]) ?_ 2 _ rfl; refine cz ?_; refine z6q (cs := #[.int .i64 t423, .int .i64 0, .int .i64 0, .int .i64 0]) ?_ 1 _ rfl; refine cz ?_; refine z6q (cs := #[.int .i64 0, .int .i64 0, .int .i64 0, .int .i64 0]) ?_ 0 _ rfl; exact cy BK428.out) hb); have n6_ := Aside0.mk (z8q (ibh HB.out) hb); clear BK408; clear BK409; clear BK410; clear BK417; clear BK422; clear BK428; clear HB; have BK408 := n0_; have BK409 := n1_; have BK410 := n2_; have BK417 := n3_; have BK422 := n4_; have BK428 := n5_; have HB := n6_; clear n0_ n1_ n2_ n3_ n4_ n5_ n6_; (try clear hb); (try clear hb2); (try clear hk); (try clear hi); have hcz61_0 : w60.cell? ⟨gb410, 0, none⟩ = some (.int .i64 0) := (z0q BK410.out 0).trans rfl; have hcz61_1 : w60.cell? ⟨gb410, 1, none⟩ = some (.int .i64 0) := (z0q BK410.out 1).trans rfl; have hcz61_2 : w60.cell? ⟨gb410, 2, none⟩ = some (.bool false) := (z0q BK410.out 2).trans rfl; have hcz61_3 : w60.cell? ⟨gb410, 3, none⟩ = some (.bool false) := (z0q BK410.out 3).trans rfl; have hcz61_4 : w60.cell? ⟨gb410, 4, none⟩ = some (.int .i64 0) := (z0q BK410.out 4).trans rfl; have hcz61_5 : w60.cell? ⟨gb410, 5, none⟩ = some (.int .i64 0) := (z0q BK410.out 5).trans rfl; have hcz61_6 : w60.cell? ⟨gb410, 6, none⟩ = some (.bool false) := (z0q BK410.out 6).trans rfl; have hcz61_7 : w60.cell? ⟨gb410, 7, none⟩ = some (.bool false) := (z0q BK410.out 7).trans rfl; have hfz61_0 := z1q BK410.out 0; have hfz61_1 := z1q BK410.out 1; have hfz61_2 := z1q BK410.out 2; have hfz61_3 := z1q BK410.out 3; have hfz61_4 := z1q BK410.out 4; have hfz61_5 := z1q BK410.out 5; have hfz61_6 := z1q BK410.out 6; have hfz61_7 := z1q BK410.out 7))
    refine bodyPost_ret (results_cell_row rfl _ _ gb410 26 #[.int .i64 t429, .int .i64 t430, .bool t431, .bool t432, .int .i64 t433, .int .i64 t434, .bool t435, .bool t436] (0, 0) _ rfl (by refine cz ?_; refine z6q (cs := #[.int .i64 t429, .int .i64 t430, .bool t431, .bool t432, .int .i64 t433, .int .i64 t434, .bool t435, .bool false]) ?_ 7 _ rfl; refine cz ?_; refine z6q (cs := #[.int .i64 t429, .int .i64 t430, .bool t431, .bool t432, .int .i64 t433, .int .i64 t434, .bool false, .bool false]) ?_ 6 _ rfl; refine cz ?_; refine z6q (cs := #[.int .i64 t429, .int .i64 t430, .bool t431, .bool t432, .int .i64 t433, .int .i64 0, .bool false, .bool false]) ?_ 5 _ rfl; refine cz ?_; refine z6q (cs := #[.int .i64 t429, .int .i64 t430, .bool t431, .bool t432, .int .i64 0, .int .i64 0, .bool false, .bool false]) ?_ 4 _ rfl; refine cz ?_; refine z6q (cs := #[.int .i64 t429, .int .i64 t430, .bool t431, .bool false, .int .i64 0, .int .i64 0, .bool false, .bool false]) ?_ 3 _ rfl; refine cz ?_; refine z6q (cs := #[.int .i64 t429, .int .i64 t430, .bool false, .bool false, .int .i64 0, .int .i64 0, .bool false, .bool false]) ?_ 2 _ rfl; refine cz ?_; refine z6q (cs := #[.int .i64 t429, .int .i64 0, .bool false, .bool false, .int .i64 0, .int .i64 0, .bool false, .bool false]) ?_ 1 _ rfl; refine cz ?_; refine z6q (cs := #[.int .i64 0, .int .i64 0, .bool false, .bool false, .int .i64 0, .int .i64 0, .bool false, .bool false]) ?_ 0 _ rfl; exact cy BK410.out) Try.underlying26 rfl (by kernel_rfl)) rfl ?_
    exact ⟨by first | rfl | (simp [errW_none, errW_some] <;> rfl) | (simp only [← hji27, ← hji28, ← hji29, ← hji30]; first | rfl | (simp [errW_none, errW_some] <;> rfl)) | (simp [*, errW_none, errW_some] <;> rfl), by repeat (first | (with_reducible first | exact HB.out | apply z7q | apply z5q | apply z12q | refine z3q ?_ GE408.out | refine z3q ?_ GE409.out | refine z3q ?_ GE410.out | refine z3q ?_ GE417.out | refine z3q ?_ GE422.out | refine z3q ?_ GE428.out) | exact HB.out)⟩

set_option maxHeartbeats 8000000 in
set_option maxRecDepth 100000 in
theorem impl_Hull.calls (k : Nat) (a0_0 : Int) (a0_1 : Int) (a0_2 : Bool) (a0_3 : Bool) (a0_4 : Int) (a0_5 : Int) (a0_6 : Bool) (a0_7 : Bool) (a1_0 : Int) (a1_1 : Int) (a1_2 : Bool) (a1_3 : Bool) (a1_4 : Int) (a1_5 : Int) (a1_6 : Bool) (a1_7 : Bool) (r1 : Int) (r2 : Int) (r3 : Bool) (r4 : Bool) (r5 : Int) (r6 : Int) (r7 : Bool) (r8 : Bool) (w : World) (h : impl_Hull.f k a0_0 a0_1 a0_2 a0_3 a0_4 a0_5 a0_6 a0_7 a1_0 a1_1 a1_2 a1_3 a1_4 a1_5 a1_6 a1_7 = some (r1, r2, r3, r4, r5, r6, r7, r8)) :
  Calls Try.prog 10 #[.agg #[.int .i64 a0_0, .int .i64 a0_1, .bool a0_2, .bool a0_3, .int .i64 a0_4, .int .i64 a0_5, .bool a0_6, .bool a0_7], .agg #[.int .i64 a1_0, .int .i64 a1_1, .bool a1_2, .bool a1_3, .int .i64 a1_4, .int .i64 a1_5, .bool a1_6, .bool a1_7]] w fun e w' => e = .returned (.agg #[.int .i64 r1, .int .i64 r2, .bool r3, .bool r4, .int .i64 r5, .int .i64 r6, .bool r7, .bool r8]) ∧ Below w.heap.size w w' := by
 have H : ((impl_GoodArea.f a0_0 a0_1 a0_2 a0_3 a0_4 a0_5 a0_6 a0_7).bind fun t411 => (if t411 = true then ((impl_GoodArea.f a1_0 a1_1 a1_2 a1_3 a1_4 a1_5 a1_6 a1_7).bind fun t412 => (impl_Hull.j0 k (!t412) a0_0 a0_1 a0_2 a0_3 a0_4 a0_5 a0_6 a0_7 a1_0 a1_1 a1_2 a1_3 a1_4 a1_5 a1_6 a1_7)) else (impl_Hull.j0 k true a0_0 a0_1 a0_2 a0_3 a0_4 a0_5 a0_6 a0_7 a1_0 a1_1 a1_2 a1_3 a1_4 a1_5 a1_6 a1_7))) = some (r1, r2, r3, r4, r5, r6, r7, r8) := h
 exact impl_Hull.calls_p1 k a0_0 a0_1 a0_2 a0_3 a0_4 a0_5 a0_6 a0_7 a1_0 a1_1 a1_2 a1_3 a1_4 a1_5 a1_6 a1_7 r1 r2 r3 r4 r5 r6 r7 r8 w H

/-! ### spec_CellsIn: function 11 -/

def spec_CellsIn.f (a0_0 : Int) (a0_1 : Int) (a0_2 : Bool) (a0_3 : Bool) (a0_4 : Int) (a0_5 : Int) (a0_6 : Bool) (a0_7 : Bool) : Option (Int) := (spec_l3Normal.f a0_0 a0_1 a0_2 a0_3 a0_4 a0_5 a0_6 a0_7).bind fun bt438 => (some (wrap64 ((wrap64 ((wrap64 (bt438.2.2.2.2.1 - bt438.1)) + 1)) * (wrap64 ((wrap64 (bt438.2.2.2.2.2.1 - bt438.2.1)) + 1)))))

set_option maxHeartbeats 8000000 in
set_option maxRecDepth 100000 in
theorem spec_CellsIn.calls (a0_0 : Int) (a0_1 : Int) (a0_2 : Bool) (a0_3 : Bool) (a0_4 : Int) (a0_5 : Int) (a0_6 : Bool) (a0_7 : Bool) (r : Int) (w : World) (h : spec_CellsIn.f a0_0 a0_1 a0_2 a0_3 a0_4 a0_5 a0_6 a0_7 = some r) :
  Calls Try.prog 11 #[.agg #[.int .i64 a0_0, .int .i64 a0_1, .bool a0_2, .bool a0_3, .int .i64 a0_4, .int .i64 a0_5, .bool a0_6, .bool a0_7]] w fun e w' => e = .returned (.int .i64 r) ∧ Below w.heap.size w w' := by
 have hu26 := Try.underlying26
 have HB := Aside0.mk (Below.refl w.heap.size w)
 have H : ((spec_l3Normal.f a0_0 a0_1 a0_2 a0_3 a0_4 a0_5 a0_6 a0_7).bind fun bt438 => (some (wrap64 ((wrap64 ((wrap64 (bt438.2.2.2.2.1 - bt438.1)) + 1)) * (wrap64 ((wrap64 (bt438.2.2.2.2.2.1 - bt438.2.1)) + 1)))))) = some r := h
 clear h
 replace H := Option.bind_eq_some_iff.mp H
 obtain ⟨⟨t438, t439, t440, t441, t442, t443, t444, t445⟩, A20, H⟩ := H
 replace H : (some (wrap64 ((wrap64 ((wrap64 (t442 - t438)) + 1)) * (wrap64 ((wrap64 (t443 - t439)) + 1))))) = some r := H
 have A2 := Aside0.mk A20
 clear A20
 obtain rfl := Option.some.inj H
 go_enter Try.func11, Try.ntmps11
 go_wp2_with (first | ((with_reducible refine z22q (N := 1) rfl ?_); refine z20q ?hg (N := 1) ?hd (cs := #[.int .i64 a0_0, .int .i64 a0_1, .bool a0_2, .bool a0_3, .int .i64 a0_4, .int .i64 a0_5, .bool a0_6, .bool a0_7]) (t := 26) ?hr ?_; (case hd => rfl); (case hg => rfl); (case hr => first | (go_simp; done) | (go_simp; rfl)); intro gb437 hg w3 hbox hb; have n0_ := Aside0.mk (z8q (ibh HB.out) hb); have n1_ := Aside0.mk (hbox); have n2_ := Aside0.mk ((by rw [hg]; exact (z13q (ibh HB.out)) : w.heap.size ≤ gb437)); have n3_ := Aside0.mk ((by rw [hg]; exact (z13q (ibh HB.out)) : w.heap.size ≤ gb437)); clear HB; have HB := n0_; have BK437 := n1_; have GW437 := n2_; have GE437 := n3_; clear n0_ n1_ n2_ n3_; clear hb hbox hg; have hcz4_0 : w3.cell? ⟨gb437, 0, none⟩ = some (.int .i64 a0_0) := (z0q BK437.out 0).trans rfl; have hcz4_1 : w3.cell? ⟨gb437, 1, none⟩ = some (.int .i64 a0_1) := (z0q BK437.out 1).trans rfl; have hcz4_2 : w3.cell? ⟨gb437, 2, none⟩ = some (.bool a0_2) := (z0q BK437.out 2).trans rfl; have hcz4_3 : w3.cell? ⟨gb437, 3, none⟩ = some (.bool a0_3) := (z0q BK437.out 3).trans rfl; have hcz4_4 : w3.cell? ⟨gb437, 4, none⟩ = some (.int .i64 a0_4) := (z0q BK437.out 4).trans rfl; have hcz4_5 : w3.cell? ⟨gb437, 5, none⟩ = some (.int .i64 a0_5) := (z0q BK437.out 5).trans rfl; have hcz4_6 : w3.cell? ⟨gb437, 6, none⟩ = some (.bool a0_6) := (z0q BK437.out 6).trans rfl; have hcz4_7 : w3.cell? ⟨gb437, 7, none⟩ = some (.bool a0_7) := (z0q BK437.out 7).trans rfl; have hfz4_0 := z1q BK437.out 0; have hfz4_1 := z1q BK437.out 1; have hfz4_2 := z1q BK437.out 2; have hfz4_3 := z1q BK437.out 3; have hfz4_4 := z1q BK437.out 4; have hfz4_5 := z1q BK437.out 5; have hfz4_6 := z1q BK437.out 6; have hfz4_7 := z1q BK437.out 7) | ((with_reducible refine z15q (f := 20) rfl ?_); refine z23q (some 4) rfl rfl Try.func20 (by kernel_rfl) rfl #[.agg #[.int .i64 a0_0, .int .i64 a0_1, .bool a0_2, .bool a0_3, .int .i64 a0_4, .int .i64 a0_5, .bool a0_6, .bool a0_7]] rfl (by (try simp only [map_toArray, map_cons, map_nil]); first | done | rfl | (simp only [length_drop, length_take]; rfl)) ?_; (with_reducible refine (spec_l3Normal.calls a0_0 a0_1 a0_2 a0_3 a0_4 a0_5 a0_6 a0_7 t438 t439 t440 t441 t442 t443 t444 t445 _ A2.out).mono ?_); rintro e w5 ⟨rfl, hb⟩; refine ⟨_, rfl, ?_⟩; have n0_ := Aside0.mk (z2q (cy BK437.out) hb); have n1_ := Aside0.mk (z8q (ibh HB.out) hb); clear BK437; clear HB; have BK437 := n0_; have HB := n1_; clear n0_ n1_; (try clear hb); (try clear hb2); (try clear hk); (try clear hi); have hcz6_0 : w5.cell? ⟨gb437, 0, none⟩ = some (.int .i64 a0_0) := (z0q BK437.out 0).trans rfl; have hcz6_1 : w5.cell? ⟨gb437, 1, none⟩ = some (.int .i64 a0_1) := (z0q BK437.out 1).trans rfl; have hcz6_2 : w5.cell? ⟨gb437, 2, none⟩ = some (.bool a0_2) := (z0q BK437.out 2).trans rfl; have hcz6_3 : w5.cell? ⟨gb437, 3, none⟩ = some (.bool a0_3) := (z0q BK437.out 3).trans rfl; have hcz6_4 : w5.cell? ⟨gb437, 4, none⟩ = some (.int .i64 a0_4) := (z0q BK437.out 4).trans rfl; have hcz6_5 : w5.cell? ⟨gb437, 5, none⟩ = some (.int .i64 a0_5) := (z0q BK437.out 5).trans rfl; have hcz6_6 : w5.cell? ⟨gb437, 6, none⟩ = some (.bool a0_6) := (z0q BK437.out 6).trans rfl; have hcz6_7 : w5.cell? ⟨gb437, 7, none⟩ = some (.bool a0_7) := (z0q BK437.out 7).trans rfl; have hfz6_0 := z1q BK437.out 0; have hfz6_1 := z1q BK437.out 1; have hfz6_2 := z1q BK437.out 2; have hfz6_3 := z1q BK437.out 3; have hfz6_4 := z1q BK437.out 4; have hfz6_5 := z1q BK437.out 5; have hfz6_6 := z1q BK437.out 6; have hfz6_7 := z1q BK437.out 7))
 go_ret
 exact ⟨by first | rfl | (simp [errW_none, errW_some] <;> rfl) | (simp [*, errW_none, errW_some] <;> rfl), by repeat (first | (with_reducible first | exact HB.out | apply z7q | apply z5q | apply z12q | refine z3q ?_ GE437.out) | exact HB.out)⟩



/-! ### spec_Hull: function 13 -/

def spec_Hull.j0 : Nat → Bool → Int → Int → Bool → Bool → Int → Int → Bool → Bool → Int → Int → Bool → Bool → Int → Int → Bool → Bool → Option (Int × Int × Bool × Bool × Int × Int × Bool × Bool)
 | 0, _, _, _, _, _, _, _, _, _, _, _, _, _, _, _, _, _ => none
 | k + 1, x12, x447000, x447001, x447002, x447003, x447004, x447005, x447006, x447007, x448000, x448001, x448002, x448003, x448004, x448005, x448006, x448007 => if x12 = true then (some (0, 0, false, false, 0, 0, false, false)) else ((spec_l3Normal.f x447000 x447001 x447002 x447003 x447004 x447005 x447006 x447007).bind fun bt451 => ((spec_l3Normal.f x448000 x448001 x448002 x448003 x448004 x448005 x448006 x448007).bind fun bt459 => ((spec_l3Min.f bt451.1 bt459.1).bind fun t467 => ((spec_l3Min.f bt451.2.1 bt459.2.1).bind fun t468 => ((spec_l3Max.f bt451.2.2.2.2.1 bt459.2.2.2.2.1).bind fun t469 => ((spec_l3Max.f bt451.2.2.2.2.2.1 bt459.2.2.2.2.2.1).bind fun t470 => ((spec_l3Area.f t467 t468 t469 t470).bind fun bt471 => (some (bt471.1, bt471.2.1, bt471.2.2.1, bt471.2.2.2.1, bt471.2.2.2.2.1, bt471.2.2.2.2.2.1, bt471.2.2.2.2.2.2.1, bt471.2.2.2.2.2.2.2)))))))))

def spec_Hull.f (k : Nat) (a0_0 : Int) (a0_1 : Int) (a0_2 : Bool) (a0_3 : Bool) (a0_4 : Int) (a0_5 : Int) (a0_6 : Bool) (a0_7 : Bool) (a1_0 : Int) (a1_1 : Int) (a1_2 : Bool) (a1_3 : Bool) (a1_4 : Int) (a1_5 : Int) (a1_6 : Bool) (a1_7 : Bool) : Option (Int × Int × Bool × Bool × Int × Int × Bool × Bool) := (spec_GoodArea.f a0_0 a0_1 a0_2 a0_3 a0_4 a0_5 a0_6 a0_7).bind fun t449 => (if t449 = true then ((spec_GoodArea.f a1_0 a1_1 a1_2 a1_3 a1_4 a1_5 a1_6 a1_7).bind fun t450 => (spec_Hull.j0 k (!t450) a0_0 a0_1 a0_2 a0_3 a0_4 a0_5 a0_6 a0_7 a1_0 a1_1 a1_2 a1_3 a1_4 a1_5 a1_6 a1_7)) else (spec_Hull.j0 k true a0_0 a0_1 a0_2 a0_3 a0_4 a0_5 a0_6 a0_7 a1_0 a1_1 a1_2 a1_3 a1_4 a1_5 a1_6 a1_7))

def spec_Hull.T5 : Bool × List (List Nat × List Nat) := (true, [([], []), ([0], [0]), ([1], [1]), ([], []), ([3], [3]), ([4], [4]), ([2, 5], [2, 5]), ([], []), ([7], [7]), ([8], [8]), ([], []), ([10], [10]), ([11], [11]), ([9, 12, 6], [9, 12]), ([], []), ([14], [14]), ([15], [15]), ([], []), ([17], [17]), ([18], [18]), ([16, 19, 13], [16, 19]), ([], []), ([21], [21]), ([22], [22]), ([], []), ([24], [24]), ([25], [25]), ([23, 26, 20], [23, 26]), ([6, 13, 20, 27, 27], [6, 13, 20, 27]), ([28, 28, 0, 1, 2, 3, 4, 5, 6, 7, 8, 9, 10, 11, 12, 13, 14, 15, 16, 17, 18, 19, 20, 21, 22, 23, 24, 25, 26, 27, 28], [28])])

def spec_Hull.B5 : List Nat := [0, 1, 3, 0, 8, 24, 63, 0, 128, 384, 0, 1024, 3072, 8191, 0, 16384, 49152, 0, 131072, 393216, 1048575, 0, 2097152, 6291456, 0, 16777216, 50331648, 134217727, 268435455, 536870911]

theorem spec_Hull.tab5 : rtab .any (opsOf Try.f13 5) = spec_Hull.T5 := by kernel_rfl

theorem spec_Hull.bits5 : waitsOk spec_Hull.T5.2 spec_Hull.B5 = true := by kernel_rfl

end Go.Proofs.Ytjjignjjnnmajaa.PFnAreas
