/- Functions of the program as Lean functions, and proofs that the Go code comes to their answers: for the law FnAreas; made out of the print by a program of mine (compact.py). No conditions but each theorem's own. -/
import Derived.Test.YtjjignjjnnmajaaMFnAreasa0
import Derived.Test.YtjjignjjnnmajaaMFnAreasa5
import Derived.Test.YtjjignjjnnmajaaMFnAreasa6
import Derived.Test.YtjjignjjnnmajaaMFnAreasa8
namespace Go.Proofs.Ytjjignjjnnmajaa.PFnAreas
open List (map_toArray map_cons map_nil length_drop length_take set_cons_zero set_cons_succ setIfInBounds_toArray)
open Go.RowKit Go.Proofs.YtjjignjjnnmajaaW.PrintWords Go.Proofs.YtjjignjjnnmajaaW.PrintLast Go.Proofs.YtjjignjjnnmajaaW.PrintMore
attribute [local go_sem] max2_int min2_int max_two min_two max_three min_three max_four min_four   -- for this text's walks alone
set_option linter.unusedVariables false
set_option linter.unusedSimpArgs false

attribute [local go_sem high] eqA26
abbrev bt9_0 : Array Bool := #[false, false, false, false, false, false, false, false, false, false, false, false, false, false, false, false, false, false, false, false, false, false, false, false, false, false, false, false, false, false]
abbrev bt9_1 : Array Bool := #[true, false, false, false, false, false, false, false, false, false, false, false, false, false, false, false, false, false, false, false, false, false, false, false, false, false, false, false, false, false]
abbrev bt9_2 : Array Bool := #[true, true, false, false, false, false, false, false, false, false, false, false, false, false, false, false, false, false, false, false, false, false, false, false, false, false, false, false, false, false]
abbrev bt9_3 : Array Bool := #[true, true, false, true, false, false, false, false, false, false, false, false, false, false, false, false, false, false, false, false, false, false, false, false, false, false, false, false, false, false]
abbrev bt9_4 : Array Bool := #[true, true, false, true, true, false, false, false, false, false, false, false, false, false, false, false, false, false, false, false, false, false, false, false, false, false, false, false, false, false]
abbrev bt9_5 : Array Bool := #[true, true, false, true, true, false, false, true, false, false, false, false, false, false, false, false, false, false, false, false, false, false, false, false, false, false, false, false, false, false]
abbrev bt9_6 : Array Bool := #[true, true, false, true, true, false, false, true, true, false, false, false, false, false, false, false, false, false, false, false, false, false, false, false, false, false, false, false, false, false]
abbrev bt9_7 : Array Bool := #[true, true, false, true, true, false, false, true, true, false, true, false, false, false, false, false, false, false, false, false, false, false, false, false, false, false, false, false, false, false]
abbrev bt9_8 : Array Bool := #[true, true, false, true, true, false, false, true, true, false, true, true, false, false, false, false, false, false, false, false, false, false, false, false, false, false, false, false, false, false]
abbrev bt9_9 : Array Bool := #[true, true, false, true, true, false, false, true, true, false, true, true, false, false, true, false, false, false, false, false, false, false, false, false, false, false, false, false, false, false]
abbrev bt9_10 : Array Bool := #[true, true, false, true, true, false, false, true, true, false, true, true, false, false, true, true, false, false, false, false, false, false, false, false, false, false, false, false, false, false]
abbrev bt9_11 : Array Bool := #[true, true, false, true, true, false, false, true, true, false, true, true, false, false, true, true, false, true, false, false, false, false, false, false, false, false, false, false, false, false]
abbrev bt9_12 : Array Bool := #[true, true, false, true, true, false, false, true, true, false, true, true, false, false, true, true, false, true, true, false, false, false, false, false, false, false, false, false, false, false]
abbrev bt9_13 : Array Bool := #[true, true, false, true, true, false, false, true, true, false, true, true, false, false, true, true, false, true, true, false, false, true, false, false, false, false, false, false, false, false]
abbrev bt9_14 : Array Bool := #[true, true, false, true, true, false, false, true, true, false, true, true, false, false, true, true, false, true, true, false, false, true, true, false, false, false, false, false, false, false]
abbrev bt9_15 : Array Bool := #[true, true, false, true, true, false, false, true, true, false, true, true, false, false, true, true, false, true, true, false, false, true, true, false, true, false, false, false, false, false]
abbrev bt9_16 : Array Bool := #[true, true, false, true, true, false, false, true, true, false, true, true, false, false, true, true, false, true, true, false, false, true, true, false, true, true, false, false, false, false]
abbrev bt9_17 : Array Bool := #[true, true, true, true, true, false, false, true, true, false, true, true, false, false, true, true, false, true, true, false, false, true, true, false, true, true, false, false, false, false]
abbrev bt9_18 : Array Bool := #[true, true, true, true, true, true, false, true, true, false, true, true, false, false, true, true, false, true, true, false, false, true, true, false, true, true, false, false, false, false]
abbrev bt9_19 : Array Bool := #[true, true, true, true, true, true, false, true, true, true, true, true, false, false, true, true, false, true, true, false, false, true, true, false, true, true, false, false, false, false]
abbrev bt9_20 : Array Bool := #[true, true, true, true, true, true, false, true, true, true, true, true, true, false, true, true, false, true, true, false, false, true, true, false, true, true, false, false, false, false]
abbrev bt9_21 : Array Bool := #[true, true, true, true, true, true, false, true, true, true, true, true, true, false, true, true, true, true, true, false, false, true, true, false, true, true, false, false, false, false]
abbrev bt9_22 : Array Bool := #[true, true, true, true, true, true, false, true, true, true, true, true, true, false, true, true, true, true, true, true, false, true, true, false, true, true, false, false, false, false]
abbrev bt9_23 : Array Bool := #[true, true, true, true, true, true, false, true, true, true, true, true, true, false, true, true, true, true, true, true, false, true, true, true, true, true, false, false, false, false]
abbrev bt9_24 : Array Bool := #[true, true, true, true, true, true, false, true, true, true, true, true, true, false, true, true, true, true, true, true, false, true, true, true, true, true, true, false, false, false]
abbrev bt9_25 : Array Bool := #[true, true, true, true, true, true, true, true, true, true, true, true, true, false, true, true, true, true, true, true, false, true, true, true, true, true, true, false, false, false]
abbrev bt9_26 : Array Bool := #[true, true, true, true, true, true, true, true, true, true, true, true, true, true, true, true, true, true, true, true, false, true, true, true, true, true, true, false, false, false]
abbrev bt9_27 : Array Bool := #[true, true, true, true, true, true, true, true, true, true, true, true, true, true, true, true, true, true, true, true, true, true, true, true, true, true, true, false, false, false]
abbrev bt9_28 : Array Bool := #[true, true, true, true, true, true, true, true, true, true, true, true, true, true, true, true, true, true, true, true, true, true, true, true, true, true, true, true, false, false]
abbrev bt9_29 : Array Bool := #[true, true, true, true, true, true, true, true, true, true, true, true, true, true, true, true, true, true, true, true, true, true, true, true, true, true, true, true, true, false]
abbrev bt9_30 : Array Bool := #[true, true, true, true, true, true, true, true, true, true, true, true, true, true, true, true, true, true, true, true, true, true, true, true, true, true, true, true, true, true]
set_option maxHeartbeats 8000000 in
set_option maxRecDepth 100000 in
theorem spec_Hull.calls_p1 (k : Nat) (a0_0 : Int) (a0_1 : Int) (a0_2 : Bool) (a0_3 : Bool) (a0_4 : Int) (a0_5 : Int) (a0_6 : Bool) (a0_7 : Bool) (a1_0 : Int) (a1_1 : Int) (a1_2 : Bool) (a1_3 : Bool) (a1_4 : Int) (a1_5 : Int) (a1_6 : Bool) (a1_7 : Bool) (r1 : Int) (r2 : Int) (r3 : Bool) (r4 : Bool) (r5 : Int) (r6 : Int) (r7 : Bool) (r8 : Bool) (w : World) (H : ((spec_GoodArea.f a0_0 a0_1 a0_2 a0_3 a0_4 a0_5 a0_6 a0_7).bind fun t449 => (if t449 = true then ((spec_GoodArea.f a1_0 a1_1 a1_2 a1_3 a1_4 a1_5 a1_6 a1_7).bind fun t450 => (spec_Hull.j0 k (!t450) a0_0 a0_1 a0_2 a0_3 a0_4 a0_5 a0_6 a0_7 a1_0 a1_1 a1_2 a1_3 a1_4 a1_5 a1_6 a1_7)) else (spec_Hull.j0 k true a0_0 a0_1 a0_2 a0_3 a0_4 a0_5 a0_6 a0_7 a1_0 a1_1 a1_2 a1_3 a1_4 a1_5 a1_6 a1_7))) = some (r1, r2, r3, r4, r5, r6, r7, r8)) :
  Calls Try.prog 13 #[.agg #[.int .i64 a0_0, .int .i64 a0_1, .bool a0_2, .bool a0_3, .int .i64 a0_4, .int .i64 a0_5, .bool a0_6, .bool a0_7], .agg #[.int .i64 a1_0, .int .i64 a1_1, .bool a1_2, .bool a1_3, .int .i64 a1_4, .int .i64 a1_5, .bool a1_6, .bool a1_7]] w fun e w' => e = .returned (.agg #[.int .i64 r1, .int .i64 r2, .bool r3, .bool r4, .int .i64 r5, .int .i64 r6, .bool r7, .bool r8]) ∧ Below w.heap.size w w' := by
 have hu26 := Try.underlying26
 have HB := Aside0.mk (Below.refl w.heap.size w)
 have HC3 := Aside0.mk H
 clear H
 go_enter Try.func13, Try.ntmps13
 go_upto_region 1 with (first | ((with_reducible refine z22q (N := 2) rfl ?_); refine z20q ?hg (N := 2) ?hd (cs := #[.int .i64 a0_0, .int .i64 a0_1, .bool a0_2, .bool a0_3, .int .i64 a0_4, .int .i64 a0_5, .bool a0_6, .bool a0_7]) (t := 26) ?hr ?_; (case hd => rfl); (case hg => rfl); (case hr => first | (go_simp; done) | (go_simp; rfl)); intro gb446 hg w4 hbox hb; have n0_ := Aside0.mk (z8q (ibh HB.out) hb); have n1_ := Aside0.mk (hbox); have n2_ := Aside0.mk ((by rw [hg]; exact (z13q (ibh HB.out)) : w.heap.size ≤ gb446)); have n3_ := Aside0.mk ((by rw [hg]; exact (z13q (ibh HB.out)) : w.heap.size ≤ gb446)); clear HB; have HB := n0_; have BK446 := n1_; have GW446 := n2_; have GE446 := n3_; clear n0_ n1_ n2_ n3_; clear hb hbox hg) | ((with_reducible refine z22q (N := 3) rfl ?_); refine z20q ?hg (N := 3) ?hd (cs := #[.int .i64 a1_0, .int .i64 a1_1, .bool a1_2, .bool a1_3, .int .i64 a1_4, .int .i64 a1_5, .bool a1_6, .bool a1_7]) (t := 26) ?hr ?_; (case hd => rfl); (case hg => rfl); (case hr => first | (go_simp; done) | (go_simp; rfl)); intro gb447 hg w5 hbox hb; have n0_ := Aside0.mk (z2q (cy BK446.out) hb); have n1_ := Aside0.mk (z8q (ibh HB.out) hb); have n2_ := Aside0.mk (hbox); have n3_ := Aside0.mk ((by rw [hg]; exact (z13q (ibh HB.out)) : w.heap.size ≤ gb447)); have n4_ := Aside0.mk ((by rw [hg]; exact (z13q (ibh HB.out)) : w.heap.size ≤ gb447)); have n5_ := Aside0.mk ((by rw [hg]; exact Nat.ne_of_lt (z14q (cy BK446.out)) : gb446 ≠ gb447)); have n6_ := Aside0.mk ((by rw [hg]; exact Nat.ne_of_gt (z14q (cy BK446.out)) : gb447 ≠ gb446)); clear BK446; clear HB; have BK446 := n0_; have HB := n1_; have BK447 := n2_; have GW447 := n3_; have GE447 := n4_; have NB446_447 := n5_; have NB447_446 := n6_; clear n0_ n1_ n2_ n3_ n4_ n5_ n6_; clear hb hbox hg) | ((with_reducible refine z22q (N := 4) rfl ?_); refine z20q ?hg (N := 4) ?hd (cs := #[.int .i64 0, .int .i64 0, .bool false, .bool false, .int .i64 0, .int .i64 0, .bool false, .bool false]) (t := 26) ?hr ?_; (case hd => rfl); (case hg => rfl); (case hr => first | (go_simp; done) | (go_simp; rfl)); intro gb448 hg w6 hbox hb; have n0_ := Aside0.mk (z2q (cy BK446.out) hb); have n1_ := Aside0.mk (z2q (cy BK447.out) hb); have n2_ := Aside0.mk (z8q (ibh HB.out) hb); have n3_ := Aside0.mk (hbox); have n4_ := Aside0.mk ((by rw [hg]; exact (z13q (ibh HB.out)) : w.heap.size ≤ gb448)); have n5_ := Aside0.mk ((by rw [hg]; exact (z13q (ibh HB.out)) : w.heap.size ≤ gb448)); have n6_ := Aside0.mk ((by rw [hg]; exact Nat.ne_of_lt (z14q (cy BK446.out)) : gb446 ≠ gb448)); have n7_ := Aside0.mk ((by rw [hg]; exact Nat.ne_of_gt (z14q (cy BK446.out)) : gb448 ≠ gb446)); have n8_ := Aside0.mk ((by rw [hg]; exact Nat.ne_of_lt (z14q (cy BK447.out)) : gb447 ≠ gb448)); have n9_ := Aside0.mk ((by rw [hg]; exact Nat.ne_of_gt (z14q (cy BK447.out)) : gb448 ≠ gb447)); clear BK446; clear BK447; clear HB; have BK446 := n0_; have BK447 := n1_; have HB := n2_; have BK448 := n3_; have GW448 := n4_; have GE448 := n5_; have NB446_448 := n6_; have NB448_446 := n7_; have NB447_448 := n8_; have NB448_447 := n9_; clear n0_ n1_ n2_ n3_ n4_ n5_ n6_ n7_ n8_ n9_; clear hb hbox hg))
 (try simp only [Act.put, setIfInBounds_toArray, set_cons_zero, set_cons_succ])
 go_cut [12] (fun v12 wc => ∃ (kq : Nat) (x12_2 : Bool), v12 = .bool x12_2 ∧ Aside0 (spec_Hull.j0 kq x12_2 a0_0 a0_1 a0_2 a0_3 a0_4 a0_5 a0_6 a0_7 a1_0 a1_1 a1_2 a1_3 a1_4 a1_5 a1_6 a1_7 = some (r1, r2, r3, r4, r5, r6, r7, r8)) ∧ Aside0 (kq ≤ k) ∧ Aside0 (wc.heap[gb446]? = some (.cells #[.int .i64 a0_0, .int .i64 a0_1, .bool a0_2, .bool a0_3, .int .i64 a0_4, .int .i64 a0_5, .bool a0_6, .bool a0_7] 26 (0, 0))) ∧ Aside0 (wc.heap[gb447]? = some (.cells #[.int .i64 a1_0, .int .i64 a1_1, .bool a1_2, .bool a1_3, .int .i64 a1_4, .int .i64 a1_5, .bool a1_6, .bool a1_7] 26 (0, 0))) ∧ Aside0 (wc.heap[gb448]? = some (.cells #[.int .i64 0, .int .i64 0, .bool false, .bool false, .int .i64 0, .int .i64 0, .bool false, .bool false] 26 (0, 0))) ∧ Aside0 (Below w.heap.size w wc))
 case first =>
  have H := HC3.out
  clear HC3
  replace H := Option.bind_eq_some_iff.mp H
  obtain ⟨t449, A70, H⟩ := H
  replace H : (if t449 = true then ((spec_GoodArea.f a1_0 a1_1 a1_2 a1_3 a1_4 a1_5 a1_6 a1_7).bind fun t450 => (spec_Hull.j0 k (!t450) a0_0 a0_1 a0_2 a0_3 a0_4 a0_5 a0_6 a0_7 a1_0 a1_1 a1_2 a1_3 a1_4 a1_5 a1_6 a1_7)) else (spec_Hull.j0 k true a0_0 a0_1 a0_2 a0_3 a0_4 a0_5 a0_6 a0_7 a1_0 a1_1 a1_2 a1_3 a1_4 a1_5 a1_6 a1_7)) = some (r1, r2, r3, r4, r5, r6, r7, r8) := H
  have A7 := Aside0.mk A70
  clear A70
  by_cases c8 : t449 = true
  ·subst c8
   have H1 : ((spec_GoodArea.f a1_0 a1_1 a1_2 a1_3 a1_4 a1_5 a1_6 a1_7).bind fun t450 => (spec_Hull.j0 k (!t450) a0_0 a0_1 a0_2 a0_3 a0_4 a0_5 a0_6 a0_7 a1_0 a1_1 a1_2 a1_3 a1_4 a1_5 a1_6 a1_7)) = some (r1, r2, r3, r4, r5, r6, r7, r8) := by rw [if_pos rfl] at H; exact H
   clear H
   have H := H1
   clear H1
   replace H := Option.bind_eq_some_iff.mp H
   obtain ⟨t450, A90, H⟩ := H
   replace H : (spec_Hull.j0 k (!t450) a0_0 a0_1 a0_2 a0_3 a0_4 a0_5 a0_6 a0_7 a1_0 a1_1 a1_2 a1_3 a1_4 a1_5 a1_6 a1_7) = some (r1, r2, r3, r4, r5, r6, r7, r8) := H
   have A9 := Aside0.mk A90
   clear A90
   have H' := Aside0.mk H
   clear H
   have hnb10 := NB446_447.out
   have hnc10 := NB447_446.out
   have hnb11 := NB446_448.out
   have hnc11 := NB448_446.out
   have hcz12_0 : w6.cell? ⟨gb446, 0, none⟩ = some (.int .i64 a0_0) := (z0q BK446.out 0).trans rfl
   have hcz12_1 : w6.cell? ⟨gb446, 1, none⟩ = some (.int .i64 a0_1) := (z0q BK446.out 1).trans rfl
   have hcz12_2 : w6.cell? ⟨gb446, 2, none⟩ = some (.bool a0_2) := (z0q BK446.out 2).trans rfl
   have hcz12_3 : w6.cell? ⟨gb446, 3, none⟩ = some (.bool a0_3) := (z0q BK446.out 3).trans rfl
   have hcz12_4 : w6.cell? ⟨gb446, 4, none⟩ = some (.int .i64 a0_4) := (z0q BK446.out 4).trans rfl
   have hcz12_5 : w6.cell? ⟨gb446, 5, none⟩ = some (.int .i64 a0_5) := (z0q BK446.out 5).trans rfl
   have hcz12_6 : w6.cell? ⟨gb446, 6, none⟩ = some (.bool a0_6) := (z0q BK446.out 6).trans rfl
   have hcz12_7 : w6.cell? ⟨gb446, 7, none⟩ = some (.bool a0_7) := (z0q BK446.out 7).trans rfl
   have hfz12_0 := z1q BK446.out 0
   have hfz12_1 := z1q BK446.out 1
   have hfz12_2 := z1q BK446.out 2
   have hfz12_3 := z1q BK446.out 3
   have hfz12_4 := z1q BK446.out 4
   have hfz12_5 := z1q BK446.out 5
   have hfz12_6 := z1q BK446.out 6
   have hfz12_7 := z1q BK446.out 7
   go_wp2_with (first | ((with_reducible refine z15q (f := 9) rfl ?_); refine z23q (some 6) rfl rfl Try.func9 (by kernel_rfl) rfl #[.agg #[.int .i64 a0_0, .int .i64 a0_1, .bool a0_2, .bool a0_3, .int .i64 a0_4, .int .i64 a0_5, .bool a0_6, .bool a0_7]] rfl (by (try simp only [map_toArray, map_cons, map_nil]); first | done | rfl | (simp only [length_drop, length_take]; rfl)) ?_; (with_reducible refine (spec_GoodArea.calls a0_0 a0_1 a0_2 a0_3 a0_4 a0_5 a0_6 a0_7 true _ A7.out).mono ?_); rintro e w13 ⟨rfl, hb⟩; refine ⟨_, rfl, ?_⟩; have n0_ := Aside0.mk (z2q (cy BK446.out) hb); have n1_ := Aside0.mk (z2q (cy BK447.out) hb); have n2_ := Aside0.mk (z2q (cy BK448.out) hb); have n3_ := Aside0.mk (z8q (ibh HB.out) hb); clear BK446; clear BK447; clear BK448; clear HB; have BK446 := n0_; have BK447 := n1_; have BK448 := n2_; have HB := n3_; clear n0_ n1_ n2_ n3_; (try clear hb); (try clear hb2); (try clear hk); (try clear hi); have hnb14 := NB447_448.out; have hnc14 := NB448_447.out; have hcz15_0 : w13.cell? ⟨gb447, 0, none⟩ = some (.int .i64 a1_0) := (z0q BK447.out 0).trans rfl; have hcz15_1 : w13.cell? ⟨gb447, 1, none⟩ = some (.int .i64 a1_1) := (z0q BK447.out 1).trans rfl; have hcz15_2 : w13.cell? ⟨gb447, 2, none⟩ = some (.bool a1_2) := (z0q BK447.out 2).trans rfl; have hcz15_3 : w13.cell? ⟨gb447, 3, none⟩ = some (.bool a1_3) := (z0q BK447.out 3).trans rfl; have hcz15_4 : w13.cell? ⟨gb447, 4, none⟩ = some (.int .i64 a1_4) := (z0q BK447.out 4).trans rfl; have hcz15_5 : w13.cell? ⟨gb447, 5, none⟩ = some (.int .i64 a1_5) := (z0q BK447.out 5).trans rfl; have hcz15_6 : w13.cell? ⟨gb447, 6, none⟩ = some (.bool a1_6) := (z0q BK447.out 6).trans rfl; have hcz15_7 : w13.cell? ⟨gb447, 7, none⟩ = some (.bool a1_7) := (z0q BK447.out 7).trans rfl; have hfz15_0 := z1q BK447.out 0; have hfz15_1 := z1q BK447.out 1; have hfz15_2 := z1q BK447.out 2; have hfz15_3 := z1q BK447.out 3; have hfz15_4 := z1q BK447.out 4; have hfz15_5 := z1q BK447.out 5; have hfz15_6 := z1q BK447.out 6; have hfz15_7 := z1q BK447.out 7) | (go_at_call 9; (with_reducible refine (spec_GoodArea.calls a1_0 a1_1 a1_2 a1_3 a1_4 a1_5 a1_6 a1_7 t450 _ A9.out).mono ?_); rintro e w16 ⟨rfl, hb⟩; have n0_ := Aside0.mk (z2q (cy BK446.out) hb); have n1_ := Aside0.mk (z2q (cy BK447.out) hb); have n2_ := Aside0.mk (z2q (cy BK448.out) hb); have n3_ := Aside0.mk (z8q (ibh HB.out) hb); clear BK446; clear BK447; clear BK448; clear HB; have BK446 := n0_; have BK447 := n1_; have BK448 := n2_; have HB := n3_; clear n0_ n1_ n2_ n3_; (try clear hb); (try clear hb2); (try clear hk); (try clear hi)))
   go_meet
   case rel => exact ⟨_, (!t450), (by first | rfl | (simp; done) | (simp [*]; done) | (simp; unfold wrap64; omega)), H', ⟨by first | omega | exact Nat.le_refl _⟩, ⟨by (with_reducible repeat (first | refine z11q ?_ _ | refine z10q ?_ | refine z4q ?_ _)); exact BK446.out⟩, ⟨by (with_reducible repeat (first | refine z11q ?_ _ | refine z10q ?_ | refine z4q ?_ _)); exact BK447.out⟩, ⟨by (with_reducible repeat (first | refine z11q ?_ _ | refine z10q ?_ | refine z4q ?_ _)); exact BK448.out⟩, ⟨by repeat (first | (with_reducible first | exact HB.out | apply z7q | apply z5q | apply z12q | refine z3q ?_ GE446.out | refine z3q ?_ GE447.out | refine z3q ?_ GE448.out) | exact HB.out)⟩⟩
  ·replace c8 := Bool.eq_false_iff.mpr c8
   subst c8
   have H1 : (spec_Hull.j0 k true a0_0 a0_1 a0_2 a0_3 a0_4 a0_5 a0_6 a0_7 a1_0 a1_1 a1_2 a1_3 a1_4 a1_5 a1_6 a1_7) = some (r1, r2, r3, r4, r5, r6, r7, r8) := by rw [if_neg (show ¬ (false = true) by decide)] at H; exact H
   clear H
   have H := H1
   clear H1
   have H' := Aside0.mk H
   clear H
   have hnb17 := NB446_447.out
   have hnc17 := NB447_446.out
   have hnb18 := NB446_448.out
   have hnc18 := NB448_446.out
   have hcz19_0 : w6.cell? ⟨gb446, 0, none⟩ = some (.int .i64 a0_0) := (z0q BK446.out 0).trans rfl
   have hcz19_1 : w6.cell? ⟨gb446, 1, none⟩ = some (.int .i64 a0_1) := (z0q BK446.out 1).trans rfl
   have hcz19_2 : w6.cell? ⟨gb446, 2, none⟩ = some (.bool a0_2) := (z0q BK446.out 2).trans rfl
   have hcz19_3 : w6.cell? ⟨gb446, 3, none⟩ = some (.bool a0_3) := (z0q BK446.out 3).trans rfl
   have hcz19_4 : w6.cell? ⟨gb446, 4, none⟩ = some (.int .i64 a0_4) := (z0q BK446.out 4).trans rfl
   have hcz19_5 : w6.cell? ⟨gb446, 5, none⟩ = some (.int .i64 a0_5) := (z0q BK446.out 5).trans rfl
   have hcz19_6 : w6.cell? ⟨gb446, 6, none⟩ = some (.bool a0_6) := (z0q BK446.out 6).trans rfl
   have hcz19_7 : w6.cell? ⟨gb446, 7, none⟩ = some (.bool a0_7) := (z0q BK446.out 7).trans rfl
   have hfz19_0 := z1q BK446.out 0
   have hfz19_1 := z1q BK446.out 1
   have hfz19_2 := z1q BK446.out 2
   have hfz19_3 := z1q BK446.out 3
   have hfz19_4 := z1q BK446.out 4
   have hfz19_5 := z1q BK446.out 5
   have hfz19_6 := z1q BK446.out 6
   have hfz19_7 := z1q BK446.out 7
   go_wp2_with (first | ((with_reducible refine z15q (f := 9) rfl ?_); refine z23q (some 6) rfl rfl Try.func9 (by kernel_rfl) rfl #[.agg #[.int .i64 a0_0, .int .i64 a0_1, .bool a0_2, .bool a0_3, .int .i64 a0_4, .int .i64 a0_5, .bool a0_6, .bool a0_7]] rfl (by (try simp only [map_toArray, map_cons, map_nil]); first | done | rfl | (simp only [length_drop, length_take]; rfl)) ?_; (with_reducible refine (spec_GoodArea.calls a0_0 a0_1 a0_2 a0_3 a0_4 a0_5 a0_6 a0_7 false _ A7.out).mono ?_); rintro e w20 ⟨rfl, hb⟩; refine ⟨_, rfl, ?_⟩; have n0_ := Aside0.mk (z2q (cy BK446.out) hb); have n1_ := Aside0.mk (z2q (cy BK447.out) hb); have n2_ := Aside0.mk (z2q (cy BK448.out) hb); have n3_ := Aside0.mk (z8q (ibh HB.out) hb); clear BK446; clear BK447; clear BK448; clear HB; have BK446 := n0_; have BK447 := n1_; have BK448 := n2_; have HB := n3_; clear n0_ n1_ n2_ n3_; (try clear hb); (try clear hb2); (try clear hk); (try clear hi)))
   go_meet
   case rel => exact ⟨_, (true), (by first | rfl | (simp; done) | (simp [*]; done) | (simp; unfold wrap64; omega)), H', ⟨by first | omega | exact Nat.le_refl _⟩, ⟨by (with_reducible repeat (first | refine z11q ?_ _ | refine z10q ?_ | refine z4q ?_ _)); exact BK446.out⟩, ⟨by (with_reducible repeat (first | refine z11q ?_ _ | refine z10q ?_ | refine z4q ?_ _)); exact BK447.out⟩, ⟨by (with_reducible repeat (first | refine z11q ?_ _ | refine z10q ?_ | refine z4q ?_ _)); exact BK448.out⟩, ⟨by repeat (first | (with_reducible first | exact HB.out | apply z7q | apply z5q | apply z12q | refine z3q ?_ GE446.out | refine z3q ?_ GE447.out | refine z3q ?_ GE448.out) | exact HB.out)⟩⟩
 case rest =>
  clear HC3
  try clear c1
  try clear p2
  try clear c8
  try clear c9
  try clear c10
  try clear c11
  try clear c13
  try clear c14
  try clear c17
  try clear c18
  try clear hcz12_0
  try clear hcz12_1
  try clear hcz12_2
  try clear hcz12_3
  try clear hcz12_4
  try clear hcz12_5
  try clear hcz12_6
  try clear hcz12_7
  try clear hcz15_0
  try clear hcz15_1
  try clear hcz15_2
  try clear hcz15_3
  try clear hcz15_4
  try clear hcz15_5
  try clear hcz15_6
  try clear hcz15_7
  try clear hcz19_0
  try clear hcz19_1
  try clear hcz19_2
  try clear hcz19_3
  try clear hcz19_4
  try clear hcz19_5
  try clear hcz19_6
  try clear hcz19_7
  try clear hfz12_0
  try clear hfz12_1
  try clear hfz12_2
  try clear hfz12_3
  try clear hfz12_4
  try clear hfz12_5
  try clear hfz12_6
  try clear hfz12_7
  try clear hfz15_0
  try clear hfz15_1
  try clear hfz15_2
  try clear hfz15_3
  try clear hfz15_4
  try clear hfz15_5
  try clear hfz15_6
  try clear hfz15_7
  try clear hfz19_0
  try clear hfz19_1
  try clear hfz19_2
  try clear hfz19_3
  try clear hfz19_4
  try clear hfz19_5
  try clear hfz19_6
  try clear hfz19_7
  obtain ⟨kq, x12_2, rfl, HA, HJ2, BK446, BK447, BK448, HB⟩ := hcut
  cases kq with
  | zero => exact absurd HA.out (by simp [spec_Hull.j0])
  | succ kj2 =>
   have H := HA.out
   clear HA
   simp only [spec_Hull.j0] at H
   by_cases c21 : x12_2 = true
   ·subst c21
    have H1 : (some (0, 0, false, false, 0, 0, false, false)) = some (r1, r2, r3, r4, r5, r6, r7, r8) := by rw [if_pos rfl] at H; exact H
    clear H
    have H := H1
    clear H1
    simp only [Option.some.injEq, Prod.mk.injEq] at H
    obtain ⟨rfl, rfl, rfl, rfl, rfl, rfl, rfl, rfl⟩ := H
    have hnb22 := NB448_446.out
    have hnc22 := NB446_448.out
    have hnb23 := NB448_447.out
    have hnc23 := NB447_448.out
    have hcz24_0 : wc.cell? ⟨gb448, 0, none⟩ = some (.int .i64 0) := (z0q BK448.out 0).trans rfl
    have hcz24_1 : wc.cell? ⟨gb448, 1, none⟩ = some (.int .i64 0) := (z0q BK448.out 1).trans rfl
    have hcz24_2 : wc.cell? ⟨gb448, 2, none⟩ = some (.bool false) := (z0q BK448.out 2).trans rfl
    have hcz24_3 : wc.cell? ⟨gb448, 3, none⟩ = some (.bool false) := (z0q BK448.out 3).trans rfl
    have hcz24_4 : wc.cell? ⟨gb448, 4, none⟩ = some (.int .i64 0) := (z0q BK448.out 4).trans rfl
    have hcz24_5 : wc.cell? ⟨gb448, 5, none⟩ = some (.int .i64 0) := (z0q BK448.out 5).trans rfl
    have hcz24_6 : wc.cell? ⟨gb448, 6, none⟩ = some (.bool false) := (z0q BK448.out 6).trans rfl
    have hcz24_7 : wc.cell? ⟨gb448, 7, none⟩ = some (.bool false) := (z0q BK448.out 7).trans rfl
    have hfz24_0 := z1q BK448.out 0
    have hfz24_1 := z1q BK448.out 1
    have hfz24_2 := z1q BK448.out 2
    have hfz24_3 := z1q BK448.out 3
    have hfz24_4 := z1q BK448.out 4
    have hfz24_5 := z1q BK448.out 5
    have hfz24_6 := z1q BK448.out 6
    have hfz24_7 := z1q BK448.out 7
    go_wp2
    refine bodyPost_ret (results_cell_row rfl _ _ gb448 26 #[.int .i64 0, .int .i64 0, .bool false, .bool false, .int .i64 0, .int .i64 0, .bool false, .bool false] (0, 0) _ rfl (by refine cz ?_; refine z6q (cs := #[.int .i64 0, .int .i64 0, .bool false, .bool false, .int .i64 0, .int .i64 0, .bool false, .bool false]) ?_ 7 _ rfl; refine cz ?_; refine z6q (cs := #[.int .i64 0, .int .i64 0, .bool false, .bool false, .int .i64 0, .int .i64 0, .bool false, .bool false]) ?_ 6 _ rfl; refine cz ?_; refine z6q (cs := #[.int .i64 0, .int .i64 0, .bool false, .bool false, .int .i64 0, .int .i64 0, .bool false, .bool false]) ?_ 5 _ rfl; refine cz ?_; refine z6q (cs := #[.int .i64 0, .int .i64 0, .bool false, .bool false, .int .i64 0, .int .i64 0, .bool false, .bool false]) ?_ 4 _ rfl; refine cz ?_; refine z6q (cs := #[.int .i64 0, .int .i64 0, .bool false, .bool false, .int .i64 0, .int .i64 0, .bool false, .bool false]) ?_ 3 _ rfl; refine cz ?_; refine z6q (cs := #[.int .i64 0, .int .i64 0, .bool false, .bool false, .int .i64 0, .int .i64 0, .bool false, .bool false]) ?_ 2 _ rfl; refine cz ?_; refine z6q (cs := #[.int .i64 0, .int .i64 0, .bool false, .bool false, .int .i64 0, .int .i64 0, .bool false, .bool false]) ?_ 1 _ rfl; refine cz ?_; refine z6q (cs := #[.int .i64 0, .int .i64 0, .bool false, .bool false, .int .i64 0, .int .i64 0, .bool false, .bool false]) ?_ 0 _ rfl; exact cy BK448.out) Try.underlying26 rfl (by kernel_rfl)) rfl ?_
    exact ⟨by first | rfl | (simp [errW_none, errW_some] <;> rfl) | (simp [*, errW_none, errW_some] <;> rfl), by repeat (first | (with_reducible first | exact HB.out | apply z7q | apply z5q | apply z12q | refine z3q ?_ GE446.out | refine z3q ?_ GE447.out | refine z3q ?_ GE448.out) | exact HB.out)⟩
   ·replace c21 := Bool.eq_false_iff.mpr c21
    subst c21
    have H1 : ((spec_l3Normal.f a0_0 a0_1 a0_2 a0_3 a0_4 a0_5 a0_6 a0_7).bind fun bt451 => ((spec_l3Normal.f a1_0 a1_1 a1_2 a1_3 a1_4 a1_5 a1_6 a1_7).bind fun bt459 => ((spec_l3Min.f bt451.1 bt459.1).bind fun t467 => ((spec_l3Min.f bt451.2.1 bt459.2.1).bind fun t468 => ((spec_l3Max.f bt451.2.2.2.2.1 bt459.2.2.2.2.1).bind fun t469 => ((spec_l3Max.f bt451.2.2.2.2.2.1 bt459.2.2.2.2.2.1).bind fun t470 => ((spec_l3Area.f t467 t468 t469 t470).bind fun bt471 => (some (bt471.1, bt471.2.1, bt471.2.2.1, bt471.2.2.2.1, bt471.2.2.2.2.1, bt471.2.2.2.2.2.1, bt471.2.2.2.2.2.2.1, bt471.2.2.2.2.2.2.2))))))))) = some (r1, r2, r3, r4, r5, r6, r7, r8) := by rw [if_neg (show ¬ (false = true) by decide)] at H; exact H
    clear H
    have H := H1
    clear H1
    replace H := Option.bind_eq_some_iff.mp H
    obtain ⟨⟨t451, t452, t453, t454, t455, t456, t457, t458⟩, A250, H⟩ := H
    replace H : ((spec_l3Normal.f a1_0 a1_1 a1_2 a1_3 a1_4 a1_5 a1_6 a1_7).bind fun bt459 => ((spec_l3Min.f t451 bt459.1).bind fun t467 => ((spec_l3Min.f t452 bt459.2.1).bind fun t468 => ((spec_l3Max.f t455 bt459.2.2.2.2.1).bind fun t469 => ((spec_l3Max.f t456 bt459.2.2.2.2.2.1).bind fun t470 => ((spec_l3Area.f t467 t468 t469 t470).bind fun bt471 => (some (bt471.1, bt471.2.1, bt471.2.2.1, bt471.2.2.2.1, bt471.2.2.2.2.1, bt471.2.2.2.2.2.1, bt471.2.2.2.2.2.2.1, bt471.2.2.2.2.2.2.2)))))))) = some (r1, r2, r3, r4, r5, r6, r7, r8) := H
    have A25 := Aside0.mk A250
    clear A250
    replace H := Option.bind_eq_some_iff.mp H
    obtain ⟨⟨t459, t460, t461, t462, t463, t464, t465, t466⟩, A260, H⟩ := H
    replace H : ((spec_l3Min.f t451 t459).bind fun t467 => ((spec_l3Min.f t452 t460).bind fun t468 => ((spec_l3Max.f t455 t463).bind fun t469 => ((spec_l3Max.f t456 t464).bind fun t470 => ((spec_l3Area.f t467 t468 t469 t470).bind fun bt471 => (some (bt471.1, bt471.2.1, bt471.2.2.1, bt471.2.2.2.1, bt471.2.2.2.2.1, bt471.2.2.2.2.2.1, bt471.2.2.2.2.2.2.1, bt471.2.2.2.2.2.2.2))))))) = some (r1, r2, r3, r4, r5, r6, r7, r8) := H
    have A26 := Aside0.mk A260
    clear A260
    replace H := Option.bind_eq_some_iff.mp H
    obtain ⟨t467, A270, H⟩ := H
    replace H : ((spec_l3Min.f t452 t460).bind fun t468 => ((spec_l3Max.f t455 t463).bind fun t469 => ((spec_l3Max.f t456 t464).bind fun t470 => ((spec_l3Area.f t467 t468 t469 t470).bind fun bt471 => (some (bt471.1, bt471.2.1, bt471.2.2.1, bt471.2.2.2.1, bt471.2.2.2.2.1, bt471.2.2.2.2.2.1, bt471.2.2.2.2.2.2.1, bt471.2.2.2.2.2.2.2)))))) = some (r1, r2, r3, r4, r5, r6, r7, r8) := H
    have A27 := Aside0.mk A270
    clear A270
    replace H := Option.bind_eq_some_iff.mp H
    obtain ⟨t468, A280, H⟩ := H
    replace H : ((spec_l3Max.f t455 t463).bind fun t469 => ((spec_l3Max.f t456 t464).bind fun t470 => ((spec_l3Area.f t467 t468 t469 t470).bind fun bt471 => (some (bt471.1, bt471.2.1, bt471.2.2.1, bt471.2.2.2.1, bt471.2.2.2.2.1, bt471.2.2.2.2.2.1, bt471.2.2.2.2.2.2.1, bt471.2.2.2.2.2.2.2))))) = some (r1, r2, r3, r4, r5, r6, r7, r8) := H
    have A28 := Aside0.mk A280
    clear A280
    replace H := Option.bind_eq_some_iff.mp H
    obtain ⟨t469, A290, H⟩ := H
    replace H : ((spec_l3Max.f t456 t464).bind fun t470 => ((spec_l3Area.f t467 t468 t469 t470).bind fun bt471 => (some (bt471.1, bt471.2.1, bt471.2.2.1, bt471.2.2.2.1, bt471.2.2.2.2.1, bt471.2.2.2.2.2.1, bt471.2.2.2.2.2.2.1, bt471.2.2.2.2.2.2.2)))) = some (r1, r2, r3, r4, r5, r6, r7, r8) := H
    have A29 := Aside0.mk A290
    clear A290
    replace H := Option.bind_eq_some_iff.mp H
    obtain ⟨t470, A300, H⟩ := H
    replace H : ((spec_l3Area.f t467 t468 t469 t470).bind fun bt471 => (some (bt471.1, bt471.2.1, bt471.2.2.1, bt471.2.2.2.1, bt471.2.2.2.2.1, bt471.2.2.2.2.2.1, bt471.2.2.2.2.2.2.1, bt471.2.2.2.2.2.2.2))) = some (r1, r2, r3, r4, r5, r6, r7, r8) := H
    have A30 := Aside0.mk A300
    clear A300
    replace H := Option.bind_eq_some_iff.mp H
    obtain ⟨⟨t471, t472, t473, t474, t475, t476, t477, t478⟩, A310, H⟩ := H
    replace H : (some (t471, t472, t473, t474, t475, t476, t477, t478)) = some (r1, r2, r3, r4, r5, r6, r7, r8) := H
    have A31 := Aside0.mk A310
    clear A310
    simp only [Option.some.injEq, Prod.mk.injEq] at H
    obtain ⟨rfl, rfl, rfl, rfl, rfl, rfl, rfl, rfl⟩ := H
    have hnb32 := NB446_447.out
    have hnc32 := NB447_446.out
    have hnb33 := NB446_448.out
    have hnc33 := NB448_446.out
    have hcz34_0 : wc.cell? ⟨gb446, 0, none⟩ = some (.int .i64 a0_0) := (z0q BK446.out 0).trans rfl
    have hcz34_1 : wc.cell? ⟨gb446, 1, none⟩ = some (.int .i64 a0_1) := (z0q BK446.out 1).trans rfl
    have hcz34_2 : wc.cell? ⟨gb446, 2, none⟩ = some (.bool a0_2) := (z0q BK446.out 2).trans rfl
    have hcz34_3 : wc.cell? ⟨gb446, 3, none⟩ = some (.bool a0_3) := (z0q BK446.out 3).trans rfl
    have hcz34_4 : wc.cell? ⟨gb446, 4, none⟩ = some (.int .i64 a0_4) := (z0q BK446.out 4).trans rfl
    have hcz34_5 : wc.cell? ⟨gb446, 5, none⟩ = some (.int .i64 a0_5) := (z0q BK446.out 5).trans rfl
    have hcz34_6 : wc.cell? ⟨gb446, 6, none⟩ = some (.bool a0_6) := (z0q BK446.out 6).trans rfl
    have hcz34_7 : wc.cell? ⟨gb446, 7, none⟩ = some (.bool a0_7) := (z0q BK446.out 7).trans rfl
    have hfz34_0 := z1q BK446.out 0
    have hfz34_1 := z1q BK446.out 1
    have hfz34_2 := z1q BK446.out 2
    have hfz34_3 := z1q BK446.out 3
    have hfz34_4 := z1q BK446.out 4
    have hfz34_5 := z1q BK446.out 5
    have hfz34_6 := z1q BK446.out 6
    have hfz34_7 := z1q BK446.out 7
    try go_wp2_with (first | ((with_reducible refine z15q (f := 20) rfl ?_); refine z23q (some 15) rfl rfl Try.func20 (by kernel_rfl) rfl #[.agg #[.int .i64 a0_0, .int .i64 a0_1, .bool a0_2, .bool a0_3, .int .i64 a0_4, .int .i64 a0_5, .bool a0_6, .bool a0_7]] rfl (by (try simp only [map_toArray, map_cons, map_nil]); first | done | rfl | (simp only [length_drop, length_take]; rfl)) ?_; (with_reducible refine (spec_l3Normal.calls a0_0 a0_1 a0_2 a0_3 a0_4 a0_5 a0_6 a0_7 t451 t452 t453 t454 t455 t456 t457 t458 _ A25.out).mono ?_); rintro e w35 ⟨rfl, hb⟩; refine ⟨_, rfl, ?_⟩; have n0_ := Aside0.mk (z2q (cy BK446.out) hb); have n1_ := Aside0.mk (z2q (cy BK447.out) hb); have n2_ := Aside0.mk (z2q (cy BK448.out) hb); have n3_ := Aside0.mk (z8q (ibh HB.out) hb); clear BK446; clear BK447; clear BK448; clear HB; have BK446 := n0_; have BK447 := n1_; have BK448 := n2_; have HB := n3_; clear n0_ n1_ n2_ n3_; (try clear hb); (try clear hb2); (try clear hk); (try clear hi); have hcz36_0 : w35.cell? ⟨gb446, 0, none⟩ = some (.int .i64 a0_0) := (z0q BK446.out 0).trans rfl; have hcz36_1 : w35.cell? ⟨gb446, 1, none⟩ = some (.int .i64 a0_1) := (z0q BK446.out 1).trans rfl; have hcz36_2 : w35.cell? ⟨gb446, 2, none⟩ = some (.bool a0_2) := (z0q BK446.out 2).trans rfl; have hcz36_3 : w35.cell? ⟨gb446, 3, none⟩ = some (.bool a0_3) := (z0q BK446.out 3).trans rfl; have hcz36_4 : w35.cell? ⟨gb446, 4, none⟩ = some (.int .i64 a0_4) := (z0q BK446.out 4).trans rfl; have hcz36_5 : w35.cell? ⟨gb446, 5, none⟩ = some (.int .i64 a0_5) := (z0q BK446.out 5).trans rfl; have hcz36_6 : w35.cell? ⟨gb446, 6, none⟩ = some (.bool a0_6) := (z0q BK446.out 6).trans rfl; have hcz36_7 : w35.cell? ⟨gb446, 7, none⟩ = some (.bool a0_7) := (z0q BK446.out 7).trans rfl; have hfz36_0 := z1q BK446.out 0; have hfz36_1 := z1q BK446.out 1; have hfz36_2 := z1q BK446.out 2; have hfz36_3 := z1q BK446.out 3; have hfz36_4 := z1q BK446.out 4; have hfz36_5 := z1q BK446.out 5; have hfz36_6 := z1q BK446.out 6; have hfz36_7 := z1q BK446.out 7; have hnb37 := NB447_448.out; have hnc37 := NB448_447.out; have hcz38_0 : w35.cell? ⟨gb447, 0, none⟩ = some (.int .i64 a1_0) := (z0q BK447.out 0).trans rfl; have hcz38_1 : w35.cell? ⟨gb447, 1, none⟩ = some (.int .i64 a1_1) := (z0q BK447.out 1).trans rfl; have hcz38_2 : w35.cell? ⟨gb447, 2, none⟩ = some (.bool a1_2) := (z0q BK447.out 2).trans rfl; have hcz38_3 : w35.cell? ⟨gb447, 3, none⟩ = some (.bool a1_3) := (z0q BK447.out 3).trans rfl; have hcz38_4 : w35.cell? ⟨gb447, 4, none⟩ = some (.int .i64 a1_4) := (z0q BK447.out 4).trans rfl; have hcz38_5 : w35.cell? ⟨gb447, 5, none⟩ = some (.int .i64 a1_5) := (z0q BK447.out 5).trans rfl; have hcz38_6 : w35.cell? ⟨gb447, 6, none⟩ = some (.bool a1_6) := (z0q BK447.out 6).trans rfl; have hcz38_7 : w35.cell? ⟨gb447, 7, none⟩ = some (.bool a1_7) := (z0q BK447.out 7).trans rfl; have hfz38_0 := z1q BK447.out 0; have hfz38_1 := z1q BK447.out 1; have hfz38_2 := z1q BK447.out 2; have hfz38_3 := z1q BK447.out 3; have hfz38_4 := z1q BK447.out 4; have hfz38_5 := z1q BK447.out 5; have hfz38_6 := z1q BK447.out 6; have hfz38_7 := z1q BK447.out 7) | ((with_reducible refine z15q (f := 20) rfl ?_); refine z23q (some 17) rfl rfl Try.func20 (by kernel_rfl) rfl #[.agg #[.int .i64 a1_0, .int .i64 a1_1, .bool a1_2, .bool a1_3, .int .i64 a1_4, .int .i64 a1_5, .bool a1_6, .bool a1_7]] rfl (by (try simp only [map_toArray, map_cons, map_nil]); first | done | rfl | (simp only [length_drop, length_take]; rfl)) ?_; (with_reducible refine (spec_l3Normal.calls a1_0 a1_1 a1_2 a1_3 a1_4 a1_5 a1_6 a1_7 t459 t460 t461 t462 t463 t464 t465 t466 _ A26.out).mono ?_); rintro e w39 ⟨rfl, hb⟩; refine ⟨_, rfl, ?_⟩; have n0_ := Aside0.mk (z2q (g := gb446) (o := .cells #[.int .i64 t451, .int .i64 t452, .bool t453, .bool t454, .int .i64 t455, .int .i64 t456, .bool t457, .bool t458] 26 (0, 0)) (by refine cz ?_; refine z6q (cs := #[.int .i64 t451, .int .i64 t452, .bool t453, .bool t454, .int .i64 t455, .int .i64 t456, .bool t457, .bool a0_7]) ?_ 7 _ rfl; refine cz ?_; refine z6q (cs := #[.int .i64 t451, .int .i64 t452, .bool t453, .bool t454, .int .i64 t455, .int .i64 t456, .bool a0_6, .bool a0_7]) ?_ 6 _ rfl; refine cz ?_; refine z6q (cs := #[.int .i64 t451, .int .i64 t452, .bool t453, .bool t454, .int .i64 t455, .int .i64 a0_5, .bool a0_6, .bool a0_7]) ?_ 5 _ rfl; refine cz ?_; refine z6q (cs := #[.int .i64 t451, .int .i64 t452, .bool t453, .bool t454, .int .i64 a0_4, .int .i64 a0_5, .bool a0_6, .bool a0_7]) ?_ 4 _ rfl; refine cz ?_; refine z6q (cs := #[.int .i64 t451, .int .i64 t452, .bool t453, .bool a0_3, .int .i64 a0_4, .int .i64 a0_5, .bool a0_6, .bool a0_7]) ?_ 3 _ rfl; refine cz ?_; refine z6q (cs := #[.int .i64 t451, .int .i64 t452, .bool a0_2, .bool a0_3, .int .i64 a0_4, .int .i64 a0_5, .bool a0_6, .bool a0_7]) ?_ 2 _ rfl; refine cz ?_; refine z6q (cs := #[.int .i64 t451, .int .i64 a0_1, .bool a0_2, .bool a0_3, .int .i64 a0_4, .int .i64 a0_5, .bool a0_6, .bool a0_7]) ?_ 1 _ rfl; refine cz ?_; refine z6q (cs := #[.int .i64 a0_0, .int .i64 a0_1, .bool a0_2, .bool a0_3, .int .i64 a0_4, .int .i64 a0_5, .bool a0_6, .bool a0_7]) ?_ 0 _ rfl; exact cy BK446.out) hb); have n1_ := Aside0.mk (z2q (cy BK447.out) hb); have n2_ := Aside0.mk (z2q (cy BK448.out) hb); have n3_ := Aside0.mk (z8q (ibh HB.out) hb); clear BK446; clear BK447; clear BK448; clear HB; have BK446 := n0_; have BK447 := n1_; have BK448 := n2_; have HB := n3_; clear n0_ n1_ n2_ n3_; (try clear hb); (try clear hb2); (try clear hk); (try clear hi); have hcz40_0 : w39.cell? ⟨gb447, 0, none⟩ = some (.int .i64 a1_0) := (z0q BK447.out 0).trans rfl; have hcz40_1 : w39.cell? ⟨gb447, 1, none⟩ = some (.int .i64 a1_1) := (z0q BK447.out 1).trans rfl; have hcz40_2 : w39.cell? ⟨gb447, 2, none⟩ = some (.bool a1_2) := (z0q BK447.out 2).trans rfl; have hcz40_3 : w39.cell? ⟨gb447, 3, none⟩ = some (.bool a1_3) := (z0q BK447.out 3).trans rfl; have hcz40_4 : w39.cell? ⟨gb447, 4, none⟩ = some (.int .i64 a1_4) := (z0q BK447.out 4).trans rfl; have hcz40_5 : w39.cell? ⟨gb447, 5, none⟩ = some (.int .i64 a1_5) := (z0q BK447.out 5).trans rfl; have hcz40_6 : w39.cell? ⟨gb447, 6, none⟩ = some (.bool a1_6) := (z0q BK447.out 6).trans rfl; have hcz40_7 : w39.cell? ⟨gb447, 7, none⟩ = some (.bool a1_7) := (z0q BK447.out 7).trans rfl; have hfz40_0 := z1q BK447.out 0; have hfz40_1 := z1q BK447.out 1; have hfz40_2 := z1q BK447.out 2; have hfz40_3 := z1q BK447.out 3; have hfz40_4 := z1q BK447.out 4; have hfz40_5 := z1q BK447.out 5; have hfz40_6 := z1q BK447.out 6; have hfz40_7 := z1q BK447.out 7))
    have n0_ : Aside0 (((((((((w39.setCell ⟨gb447, 0, none⟩ (.int .i64 t459)).setCell ⟨gb447, 1, none⟩ (.int .i64 t460)).setCell ⟨gb447, 2, none⟩ (.bool t461)).setCell ⟨gb447, 3, none⟩ (.bool t462)).setCell ⟨gb447, 4, none⟩ (.int .i64 t463)).setCell ⟨gb447, 5, none⟩ (.int .i64 t464)).setCell ⟨gb447, 6, none⟩ (.bool t465)).setCell ⟨gb447, 7, none⟩ (.bool t466)).heap[gb446]? = some (.cells #[.int .i64 t451, .int .i64 t452, .bool t453, .bool t454, .int .i64 t455, .int .i64 t456, .bool t457, .bool t458] 26 (0, 0))) := ⟨by (with_reducible repeat (first | refine z11q ?_ _ | refine z10q ?_ | refine z4q ?_ _)); refine z18q ?_ NB446_447.out _; (with_reducible repeat (first | refine z11q ?_ _ | refine z10q ?_ | refine z4q ?_ _)); refine z18q ?_ NB446_447.out _; (with_reducible repeat (first | refine z11q ?_ _ | refine z10q ?_ | refine z4q ?_ _)); refine z18q ?_ NB446_447.out _; (with_reducible repeat (first | refine z11q ?_ _ | refine z10q ?_ | refine z4q ?_ _)); refine z18q ?_ NB446_447.out _; (with_reducible repeat (first | refine z11q ?_ _ | refine z10q ?_ | refine z4q ?_ _)); refine z18q ?_ NB446_447.out _; (with_reducible repeat (first | refine z11q ?_ _ | refine z10q ?_ | refine z4q ?_ _)); refine z18q ?_ NB446_447.out _; (with_reducible repeat (first | refine z11q ?_ _ | refine z10q ?_ | refine z4q ?_ _)); refine z18q ?_ NB446_447.out _; (with_reducible repeat (first | refine z11q ?_ _ | refine z10q ?_ | refine z4q ?_ _)); refine z18q ?_ NB446_447.out _; (with_reducible repeat (first | refine z11q ?_ _ | refine z10q ?_ | refine z4q ?_ _)); exact BK446.out⟩
    have n1_ : Aside0 (((((((((w39.setCell ⟨gb447, 0, none⟩ (.int .i64 t459)).setCell ⟨gb447, 1, none⟩ (.int .i64 t460)).setCell ⟨gb447, 2, none⟩ (.bool t461)).setCell ⟨gb447, 3, none⟩ (.bool t462)).setCell ⟨gb447, 4, none⟩ (.int .i64 t463)).setCell ⟨gb447, 5, none⟩ (.int .i64 t464)).setCell ⟨gb447, 6, none⟩ (.bool t465)).setCell ⟨gb447, 7, none⟩ (.bool t466)).heap[gb447]? = some (.cells #[.int .i64 t459, .int .i64 t460, .bool t461, .bool t462, .int .i64 t463, .int .i64 t464, .bool t465, .bool t466] 26 (0, 0))) := ⟨by refine cz ?_; refine z6q (cs := #[.int .i64 t459, .int .i64 t460, .bool t461, .bool t462, .int .i64 t463, .int .i64 t464, .bool t465, .bool a1_7]) ?_ 7 _ rfl; refine cz ?_; refine z6q (cs := #[.int .i64 t459, .int .i64 t460, .bool t461, .bool t462, .int .i64 t463, .int .i64 t464, .bool a1_6, .bool a1_7]) ?_ 6 _ rfl; refine cz ?_; refine z6q (cs := #[.int .i64 t459, .int .i64 t460, .bool t461, .bool t462, .int .i64 t463, .int .i64 a1_5, .bool a1_6, .bool a1_7]) ?_ 5 _ rfl; refine cz ?_; refine z6q (cs := #[.int .i64 t459, .int .i64 t460, .bool t461, .bool t462, .int .i64 a1_4, .int .i64 a1_5, .bool a1_6, .bool a1_7]) ?_ 4 _ rfl; refine cz ?_; refine z6q (cs := #[.int .i64 t459, .int .i64 t460, .bool t461, .bool a1_3, .int .i64 a1_4, .int .i64 a1_5, .bool a1_6, .bool a1_7]) ?_ 3 _ rfl; refine cz ?_; refine z6q (cs := #[.int .i64 t459, .int .i64 t460, .bool a1_2, .bool a1_3, .int .i64 a1_4, .int .i64 a1_5, .bool a1_6, .bool a1_7]) ?_ 2 _ rfl; refine cz ?_; refine z6q (cs := #[.int .i64 t459, .int .i64 a1_1, .bool a1_2, .bool a1_3, .int .i64 a1_4, .int .i64 a1_5, .bool a1_6, .bool a1_7]) ?_ 1 _ rfl; refine cz ?_; refine z6q (cs := #[.int .i64 a1_0, .int .i64 a1_1, .bool a1_2, .bool a1_3, .int .i64 a1_4, .int .i64 a1_5, .bool a1_6, .bool a1_7]) ?_ 0 _ rfl; (with_reducible repeat (first | refine z11q ?_ _ | refine z10q ?_ | refine z4q ?_ _)); exact BK447.out⟩
    have n2_ : Aside0 (((((((((w39.setCell ⟨gb447, 0, none⟩ (.int .i64 t459)).setCell ⟨gb447, 1, none⟩ (.int .i64 t460)).setCell ⟨gb447, 2, none⟩ (.bool t461)).setCell ⟨gb447, 3, none⟩ (.bool t462)).setCell ⟨gb447, 4, none⟩ (.int .i64 t463)).setCell ⟨gb447, 5, none⟩ (.int .i64 t464)).setCell ⟨gb447, 6, none⟩ (.bool t465)).setCell ⟨gb447, 7, none⟩ (.bool t466)).heap[gb448]? = some (.cells #[.int .i64 0, .int .i64 0, .bool false, .bool false, .int .i64 0, .int .i64 0, .bool false, .bool false] 26 (0, 0))) := ⟨by (with_reducible repeat (first | refine z11q ?_ _ | refine z10q ?_ | refine z4q ?_ _)); refine z18q ?_ NB448_447.out _; (with_reducible repeat (first | refine z11q ?_ _ | refine z10q ?_ | refine z4q ?_ _)); refine z18q ?_ NB448_447.out _; (with_reducible repeat (first | refine z11q ?_ _ | refine z10q ?_ | refine z4q ?_ _)); refine z18q ?_ NB448_447.out _; (with_reducible repeat (first | refine z11q ?_ _ | refine z10q ?_ | refine z4q ?_ _)); refine z18q ?_ NB448_447.out _; (with_reducible repeat (first | refine z11q ?_ _ | refine z10q ?_ | refine z4q ?_ _)); refine z18q ?_ NB448_447.out _; (with_reducible repeat (first | refine z11q ?_ _ | refine z10q ?_ | refine z4q ?_ _)); refine z18q ?_ NB448_447.out _; (with_reducible repeat (first | refine z11q ?_ _ | refine z10q ?_ | refine z4q ?_ _)); refine z18q ?_ NB448_447.out _; (with_reducible repeat (first | refine z11q ?_ _ | refine z10q ?_ | refine z4q ?_ _)); refine z18q ?_ NB448_447.out _; (with_reducible repeat (first | refine z11q ?_ _ | refine z10q ?_ | refine z4q ?_ _)); exact BK448.out⟩
    have n3_ : Aside0 (Below w.heap.size w ((((((((w39.setCell ⟨gb447, 0, none⟩ (.int .i64 t459)).setCell ⟨gb447, 1, none⟩ (.int .i64 t460)).setCell ⟨gb447, 2, none⟩ (.bool t461)).setCell ⟨gb447, 3, none⟩ (.bool t462)).setCell ⟨gb447, 4, none⟩ (.int .i64 t463)).setCell ⟨gb447, 5, none⟩ (.int .i64 t464)).setCell ⟨gb447, 6, none⟩ (.bool t465)).setCell ⟨gb447, 7, none⟩ (.bool t466))) := ⟨by repeat (first | (with_reducible first | exact HB.out | apply z7q | apply z5q | apply z12q | refine z3q ?_ GE446.out | refine z3q ?_ GE447.out | refine z3q ?_ GE448.out) | exact HB.out)⟩
    (try clear BK446)
    (try clear BK447)
    (try clear BK448)
    (try clear HB)
    generalize ((((((((w39.setCell ⟨gb447, 0, none⟩ (.int .i64 t459)).setCell ⟨gb447, 1, none⟩ (.int .i64 t460)).setCell ⟨gb447, 2, none⟩ (.bool t461)).setCell ⟨gb447, 3, none⟩ (.bool t462)).setCell ⟨gb447, 4, none⟩ (.int .i64 t463)).setCell ⟨gb447, 5, none⟩ (.int .i64 t464)).setCell ⟨gb447, 6, none⟩ (.bool t465)).setCell ⟨gb447, 7, none⟩ (.bool t466)) = w41 at n0_ n1_ n2_ n3_ ⊢
    have BK446 := n0_
    have BK447 := n1_
    have BK448 := n2_
    have HB := n3_
    clear n0_ n1_ n2_ n3_
    have n0_ := Aside0.mk (z10q BK446.out)
    have n1_ := Aside0.mk (z10q BK447.out)
    have n2_ := Aside0.mk (z10q BK448.out)
    have n3_ := Aside0.mk (z12q HB.out)
    clear BK446
    clear BK447
    clear BK448
    clear HB
    have BK446 := n0_
    have BK447 := n1_
    have BK448 := n2_
    have HB := n3_
    clear n0_ n1_ n2_ n3_
    refine start_ (n := 30) (S := fun w' => w'.cell? ⟨gb446, 0, none⟩ = some (.int .i64 t451) ∧ w'.cell? ⟨gb446, 1, none⟩ = some (.int .i64 t452) ∧ w'.cell? ⟨gb446, 2, none⟩ = some (.bool t453) ∧ w'.cell? ⟨gb446, 3, none⟩ = some (.bool t454) ∧ w'.cell? ⟨gb446, 4, none⟩ = some (.int .i64 t455) ∧ w'.cell? ⟨gb446, 5, none⟩ = some (.int .i64 t456) ∧ w'.cell? ⟨gb446, 6, none⟩ = some (.bool t457) ∧ w'.cell? ⟨gb446, 7, none⟩ = some (.bool t458) ∧ w'.cell? ⟨gb447, 0, none⟩ = some (.int .i64 t459) ∧ w'.cell? ⟨gb447, 1, none⟩ = some (.int .i64 t460) ∧ w'.cell? ⟨gb447, 2, none⟩ = some (.bool t461) ∧ w'.cell? ⟨gb447, 3, none⟩ = some (.bool t462) ∧ w'.cell? ⟨gb447, 4, none⟩ = some (.int .i64 t463) ∧ w'.cell? ⟨gb447, 5, none⟩ = some (.int .i64 t464) ∧ w'.cell? ⟨gb447, 6, none⟩ = some (.bool t465) ∧ w'.cell? ⟨gb447, 7, none⟩ = some (.bool t466)) (ds := []) bt9_0 (by kernel_rfl) rfl rfl ⟨(z0q BK446.out 0).trans rfl, (z0q BK446.out 1).trans rfl, (z0q BK446.out 2).trans rfl, (z0q BK446.out 3).trans rfl, (z0q BK446.out 4).trans rfl, (z0q BK446.out 5).trans rfl, (z0q BK446.out 6).trans rfl, (z0q BK446.out 7).trans rfl, (z0q BK447.out 0).trans rfl, (z0q BK447.out 1).trans rfl, (z0q BK447.out 2).trans rfl, (z0q BK447.out 3).trans rfl, (z0q BK447.out 4).trans rfl, (z0q BK447.out 5).trans rfl, (z0q BK447.out 6).trans rfl, (z0q BK447.out 7).trans rfl⟩ (fun hHeld => ?_); refine with_tabW spec_Hull.tab5 spec_Hull.bits5 (fun HT_ HW_ => ?_)
    generalize w41.drew = w42 at BK446 BK447 BK448 HB hHeld ⊢
    refine pure_ (i := 0) (N := some 18) (v := ?_) (a' := ?_) bt9_1 rfl rfl (any_of HT_.out (by kernel_rfl)) (fun _ _ _ h => h) (Or.inl ⟨by rfl, ?_⟩) ?_ ?_
    rotate_left
    ·intro w'
     go_simp
     with_reducible rfl
    rotate_left
    ·simp only [Act.put, setIfInBounds_toArray, set_cons_zero, set_cons_succ, i64_w, i32_w]
     rfl
    refine pure_ (i := 1) (N := some 19) (v := ?_) (a' := ?_) bt9_2 rfl rfl (any_of HT_.out (by kernel_rfl)) (fun _ _ _ h => h) (Or.inl ⟨by rfl, ?_⟩) ?_ ?_
    rotate_left
    ·intro w'
     go_simp
     with_reducible rfl
    rotate_left
    ·simp only [Act.put, setIfInBounds_toArray, set_cons_zero, set_cons_succ, i64_w, i32_w]
     rfl
    refine pure_ (i := 3) (N := some 21) (v := ?_) (a' := ?_) bt9_3 rfl rfl (any_of HT_.out (by kernel_rfl)) (fun _ _ _ h => h) (Or.inl ⟨by rfl, ?_⟩) ?_ ?_
    rotate_left
    ·intro w'
     go_simp
     with_reducible rfl
    rotate_left
    ·simp only [Act.put, setIfInBounds_toArray, set_cons_zero, set_cons_succ, i64_w, i32_w]
     rfl
    refine pure_ (i := 4) (N := some 22) (v := ?_) (a' := ?_) bt9_4 rfl rfl (any_of HT_.out (by kernel_rfl)) (fun _ _ _ h => h) (Or.inl ⟨by rfl, ?_⟩) ?_ ?_
    rotate_left
    ·intro w'
     go_simp
     with_reducible rfl
    rotate_left
    ·simp only [Act.put, setIfInBounds_toArray, set_cons_zero, set_cons_succ, i64_w, i32_w]
     rfl
    refine pure_ (i := 7) (N := some 25) (v := ?_) (a' := ?_) bt9_5 rfl rfl (any_of HT_.out (by kernel_rfl)) (fun _ _ _ h => h) (Or.inl ⟨by rfl, ?_⟩) ?_ ?_
    rotate_left
    ·intro w'
     go_simp
     with_reducible rfl
    rotate_left
    ·simp only [Act.put, setIfInBounds_toArray, set_cons_zero, set_cons_succ, i64_w, i32_w]
     rfl
    refine pure_ (i := 8) (N := some 26) (v := ?_) (a' := ?_) bt9_6 rfl rfl (any_of HT_.out (by kernel_rfl)) (fun _ _ _ h => h) (Or.inl ⟨by rfl, ?_⟩) ?_ ?_
    rotate_left
    ·intro w'
     go_simp
     with_reducible rfl
    rotate_left
    ·simp only [Act.put, setIfInBounds_toArray, set_cons_zero, set_cons_succ, i64_w, i32_w]
     rfl
    refine pure_ (i := 10) (N := some 28) (v := ?_) (a' := ?_) bt9_7 rfl rfl (any_of HT_.out (by kernel_rfl)) (fun _ _ _ h => h) (Or.inl ⟨by rfl, ?_⟩) ?_ ?_
    rotate_left
    ·intro w'
     go_simp
     with_reducible rfl
    rotate_left
    ·simp only [Act.put, setIfInBounds_toArray, set_cons_zero, set_cons_succ, i64_w, i32_w]
     rfl
    refine pure_ (i := 11) (N := some 29) (v := ?_) (a' := ?_) bt9_8 rfl rfl (any_of HT_.out (by kernel_rfl)) (fun _ _ _ h => h) (Or.inl ⟨by rfl, ?_⟩) ?_ ?_
    rotate_left
    ·intro w'
     go_simp
     with_reducible rfl
    rotate_left
    ·simp only [Act.put, setIfInBounds_toArray, set_cons_zero, set_cons_succ, i64_w, i32_w]
     rfl
    refine pure_ (i := 14) (N := some 32) (v := ?_) (a' := ?_) bt9_9 rfl rfl (any_of HT_.out (by kernel_rfl)) (fun _ _ _ h => h) (Or.inl ⟨by rfl, ?_⟩) ?_ ?_
    rotate_left
    ·intro w'
     go_simp
     with_reducible rfl
    rotate_left
    ·simp only [Act.put, setIfInBounds_toArray, set_cons_zero, set_cons_succ, i64_w, i32_w]
     rfl
    refine pure_ (i := 15) (N := some 33) (v := ?_) (a' := ?_) bt9_10 rfl rfl (any_of HT_.out (by kernel_rfl)) (fun _ _ _ h => h) (Or.inl ⟨by rfl, ?_⟩) ?_ ?_
    rotate_left
    ·intro w'
     go_simp
     with_reducible rfl
    rotate_left
    ·simp only [Act.put, setIfInBounds_toArray, set_cons_zero, set_cons_succ, i64_w, i32_w]
     rfl
    refine pure_ (i := 17) (N := some 35) (v := ?_) (a' := ?_) bt9_11 rfl rfl (any_of HT_.out (by kernel_rfl)) (fun _ _ _ h => h) (Or.inl ⟨by rfl, ?_⟩) ?_ ?_
    rotate_left
    ·intro w'
     go_simp
     with_reducible rfl
    rotate_left
    ·simp only [Act.put, setIfInBounds_toArray, set_cons_zero, set_cons_succ, i64_w, i32_w]
     rfl
    refine pure_ (i := 18) (N := some 36) (v := ?_) (a' := ?_) bt9_12 rfl rfl (any_of HT_.out (by kernel_rfl)) (fun _ _ _ h => h) (Or.inl ⟨by rfl, ?_⟩) ?_ ?_
    rotate_left
    ·intro w'
     go_simp
     with_reducible rfl
    rotate_left
    ·simp only [Act.put, setIfInBounds_toArray, set_cons_zero, set_cons_succ, i64_w, i32_w]
     rfl
    refine pure_ (i := 21) (N := some 39) (v := ?_) (a' := ?_) bt9_13 rfl rfl (any_of HT_.out (by kernel_rfl)) (fun _ _ _ h => h) (Or.inl ⟨by rfl, ?_⟩) ?_ ?_
    rotate_left
    ·intro w'
     go_simp
     with_reducible rfl
    rotate_left
    ·simp only [Act.put, setIfInBounds_toArray, set_cons_zero, set_cons_succ, i64_w, i32_w]
     rfl
    refine pure_ (i := 22) (N := some 40) (v := ?_) (a' := ?_) bt9_14 rfl rfl (any_of HT_.out (by kernel_rfl)) (fun _ _ _ h => h) (Or.inl ⟨by rfl, ?_⟩) ?_ ?_
    rotate_left
    ·intro w'
     go_simp
     with_reducible rfl
    rotate_left
    ·simp only [Act.put, setIfInBounds_toArray, set_cons_zero, set_cons_succ, i64_w, i32_w]
     rfl
    refine pure_ (i := 24) (N := some 42) (v := ?_) (a' := ?_) bt9_15 rfl rfl (any_of HT_.out (by kernel_rfl)) (fun _ _ _ h => h) (Or.inl ⟨by rfl, ?_⟩) ?_ ?_
    rotate_left
    ·intro w'
     go_simp
     with_reducible rfl
    rotate_left
    ·simp only [Act.put, setIfInBounds_toArray, set_cons_zero, set_cons_succ, i64_w, i32_w]
     rfl
    refine pure_ (i := 25) (N := some 43) (v := ?_) (a' := ?_) bt9_16 rfl rfl (any_of HT_.out (by kernel_rfl)) (fun _ _ _ h => h) (Or.inl ⟨by rfl, ?_⟩) ?_ ?_
    rotate_left
    ·intro w'
     go_simp
     with_reducible rfl
    rotate_left
    ·simp only [Act.put, setIfInBounds_toArray, set_cons_zero, set_cons_succ, i64_w, i32_w]
     rfl
    refine take_ (i := 2) (N := some 20) (v := ?_) (a' := ?_) bt9_17 rfl rfl (take_ofW HT_.out HW_.out (by kernel_rfl)) (fun _ _ _ h => h) (Or.inl ⟨by rfl, ?_⟩) hHeld ?_ ?_
    rotate_left
    ·rintro w' ⟨s0, s1, s2, s3, s4, s5, s6, s7, s8, s9, s10, s11, s12, s13, s14, s15⟩
     go_simp
     with_reducible rfl
    rotate_left
    ·simp only [Act.put, setIfInBounds_toArray, set_cons_zero, set_cons_succ, i64_w, i32_w]
     rfl
    refine take_ (i := 5) (N := some 23) (v := ?_) (a' := ?_) bt9_18 rfl rfl (take_ofW HT_.out HW_.out (by kernel_rfl)) (fun _ _ _ h => h) (Or.inl ⟨by rfl, ?_⟩) hHeld ?_ ?_
    rotate_left
    ·rintro w' ⟨s0, s1, s2, s3, s4, s5, s6, s7, s8, s9, s10, s11, s12, s13, s14, s15⟩
     go_simp
     with_reducible rfl
    rotate_left
    ·simp only [Act.put, setIfInBounds_toArray, set_cons_zero, set_cons_succ, i64_w, i32_w]
     rfl
    refine take_ (i := 9) (N := some 27) (v := ?_) (a' := ?_) bt9_19 rfl rfl (take_ofW HT_.out HW_.out (by kernel_rfl)) (fun _ _ _ h => h) (Or.inl ⟨by rfl, ?_⟩) hHeld ?_ ?_
    rotate_left
    ·rintro w' ⟨s0, s1, s2, s3, s4, s5, s6, s7, s8, s9, s10, s11, s12, s13, s14, s15⟩
     go_simp
     with_reducible rfl
    rotate_left
    ·simp only [Act.put, setIfInBounds_toArray, set_cons_zero, set_cons_succ, i64_w, i32_w]
     rfl
    refine take_ (i := 12) (N := some 30) (v := ?_) (a' := ?_) bt9_20 rfl rfl (take_ofW HT_.out HW_.out (by kernel_rfl)) (fun _ _ _ h => h) (Or.inl ⟨by rfl, ?_⟩) hHeld ?_ ?_
    rotate_left
    ·rintro w' ⟨s0, s1, s2, s3, s4, s5, s6, s7, s8, s9, s10, s11, s12, s13, s14, s15⟩
     go_simp
     with_reducible rfl
    rotate_left
    ·simp only [Act.put, setIfInBounds_toArray, set_cons_zero, set_cons_succ, i64_w, i32_w]
     rfl
    refine take_ (i := 16) (N := some 34) (v := ?_) (a' := ?_) bt9_21 rfl rfl (take_ofW HT_.out HW_.out (by kernel_rfl)) (fun _ _ _ h => h) (Or.inl ⟨by rfl, ?_⟩) hHeld ?_ ?_
    rotate_left
    ·rintro w' ⟨s0, s1, s2, s3, s4, s5, s6, s7, s8, s9, s10, s11, s12, s13, s14, s15⟩
     go_simp
     with_reducible rfl
    rotate_left
    ·simp only [Act.put, setIfInBounds_toArray, set_cons_zero, set_cons_succ, i64_w, i32_w]
     rfl
    refine take_ (i := 19) (N := some 37) (v := ?_) (a' := ?_) bt9_22 rfl rfl (take_ofW HT_.out HW_.out (by kernel_rfl)) (fun _ _ _ h => h) (Or.inl ⟨by rfl, ?_⟩) hHeld ?_ ?_
    rotate_left
    ·rintro w' ⟨s0, s1, s2, s3, s4, s5, s6, s7, s8, s9, s10, s11, s12, s13, s14, s15⟩
     go_simp
     with_reducible rfl
    rotate_left
    ·simp only [Act.put, setIfInBounds_toArray, set_cons_zero, set_cons_succ, i64_w, i32_w]
     rfl
    refine take_ (i := 23) (N := some 41) (v := ?_) (a' := ?_) bt9_23 rfl rfl (take_ofW HT_.out HW_.out (by kernel_rfl)) (fun _ _ _ h => h) (Or.inl ⟨by rfl, ?_⟩) hHeld ?_ ?_
    rotate_left
    ·rintro w' ⟨s0, s1, s2, s3, s4, s5, s6, s7, s8, s9, s10, s11, s12, s13, s14, s15⟩
     go_simp
     with_reducible rfl
    rotate_left
    ·simp only [Act.put, setIfInBounds_toArray, set_cons_zero, set_cons_succ, i64_w, i32_w]
     rfl
    refine take_ (i := 26) (N := some 44) (v := ?_) (a' := ?_) bt9_24 rfl rfl (take_ofW HT_.out HW_.out (by kernel_rfl)) (fun _ _ _ h => h) (Or.inl ⟨by rfl, ?_⟩) hHeld ?_ ?_
    rotate_left
    ·rintro w' ⟨s0, s1, s2, s3, s4, s5, s6, s7, s8, s9, s10, s11, s12, s13, s14, s15⟩
     go_simp
     with_reducible rfl
    rotate_left
    ·simp only [Act.put, setIfInBounds_toArray, set_cons_zero, set_cons_succ, i64_w, i32_w]
     rfl
    refine one_ (i := 6) (N := some 24) bt9_25 rfl rfl (one_of HT_.out (by kernel_rfl)) (by decide) (fun K hK => ?_)
    refine goes_ Try.func24 (by kernel_rfl) rfl #[.int .i64 t451, .int .i64 t459] (by rfl) rfl rfl (by (try simp only [map_toArray, map_cons, map_nil]); first | done | rfl | (simp only [length_drop, length_take]; rfl)) ?_
    with_reducible refine (spec_l3Min.calls t451 t459 t467 _ A27.out).mono ?_
    rintro e w' ⟨rfl, ⟨nd, rfl⟩⟩
    refine ⟨_, rfl, ?_⟩
    refine hK.out _ _ ⟨(z0q BK446.out 0).trans rfl, (z0q BK446.out 1).trans rfl, (z0q BK446.out 2).trans rfl, (z0q BK446.out 3).trans rfl, (z0q BK446.out 4).trans rfl, (z0q BK446.out 5).trans rfl, (z0q BK446.out 6).trans rfl, (z0q BK446.out 7).trans rfl, (z0q BK447.out 0).trans rfl, (z0q BK447.out 1).trans rfl, (z0q BK447.out 2).trans rfl, (z0q BK447.out 3).trans rfl, (z0q BK447.out 4).trans rfl, (z0q BK447.out 5).trans rfl, (z0q BK447.out 6).trans rfl, (z0q BK447.out 7).trans rfl⟩ (fun hHeld => ?_)
    clear hK K
    refine norm_ (a' := ?_) ?_ ?_
    rotate_left
    ·show Act.put _ (some 24) _ = _
     simp only [Act.put, setIfInBounds_toArray, set_cons_zero, set_cons_succ, i64_w, i32_w]
     rfl
    refine one_ (i := 13) (N := some 31) bt9_26 rfl rfl (one_of HT_.out (by kernel_rfl)) (by decide) (fun K hK => ?_)
    refine goes_ Try.func24 (by kernel_rfl) rfl #[.int .i64 t452, .int .i64 t460] (by rfl) rfl rfl (by (try simp only [map_toArray, map_cons, map_nil]); first | done | rfl | (simp only [length_drop, length_take]; rfl)) ?_
    with_reducible refine (spec_l3Min.calls t452 t460 t468 _ A28.out).mono ?_
    rintro e w' ⟨rfl, ⟨nd, rfl⟩⟩
    refine ⟨_, rfl, ?_⟩
    refine hK.out _ _ ⟨(z0q BK446.out 0).trans rfl, (z0q BK446.out 1).trans rfl, (z0q BK446.out 2).trans rfl, (z0q BK446.out 3).trans rfl, (z0q BK446.out 4).trans rfl, (z0q BK446.out 5).trans rfl, (z0q BK446.out 6).trans rfl, (z0q BK446.out 7).trans rfl, (z0q BK447.out 0).trans rfl, (z0q BK447.out 1).trans rfl, (z0q BK447.out 2).trans rfl, (z0q BK447.out 3).trans rfl, (z0q BK447.out 4).trans rfl, (z0q BK447.out 5).trans rfl, (z0q BK447.out 6).trans rfl, (z0q BK447.out 7).trans rfl⟩ (fun hHeld => ?_)
    clear hK K
    refine norm_ (a' := ?_) ?_ ?_
    rotate_left
    ·show Act.put _ (some 31) _ = _
     simp only [Act.put, setIfInBounds_toArray, set_cons_zero, set_cons_succ, i64_w, i32_w]
     rfl
    refine one_ (i := 20) (N := some 38) bt9_27 rfl rfl (one_of HT_.out (by kernel_rfl)) (by decide) (fun K hK => ?_)
    refine goes_ Try.func23 (by kernel_rfl) rfl #[.int .i64 t455, .int .i64 t463] (by rfl) rfl rfl (by (try simp only [map_toArray, map_cons, map_nil]); first | done | rfl | (simp only [length_drop, length_take]; rfl)) ?_
    with_reducible refine (spec_l3Max.calls t455 t463 t469 _ A29.out).mono ?_
    rintro e w' ⟨rfl, ⟨nd, rfl⟩⟩
    refine ⟨_, rfl, ?_⟩
    refine hK.out _ _ ⟨(z0q BK446.out 0).trans rfl, (z0q BK446.out 1).trans rfl, (z0q BK446.out 2).trans rfl, (z0q BK446.out 3).trans rfl, (z0q BK446.out 4).trans rfl, (z0q BK446.out 5).trans rfl, (z0q BK446.out 6).trans rfl, (z0q BK446.out 7).trans rfl, (z0q BK447.out 0).trans rfl, (z0q BK447.out 1).trans rfl, (z0q BK447.out 2).trans rfl, (z0q BK447.out 3).trans rfl, (z0q BK447.out 4).trans rfl, (z0q BK447.out 5).trans rfl, (z0q BK447.out 6).trans rfl, (z0q BK447.out 7).trans rfl⟩ (fun hHeld => ?_)
    clear hK K
    refine norm_ (a' := ?_) ?_ ?_
    rotate_left
    ·show Act.put _ (some 38) _ = _
     simp only [Act.put, setIfInBounds_toArray, set_cons_zero, set_cons_succ, i64_w, i32_w]
     rfl
    refine one_ (i := 27) (N := some 45) bt9_28 rfl rfl (one_of HT_.out (by kernel_rfl)) (by decide) (fun K hK => ?_)
    refine goes_ Try.func23 (by kernel_rfl) rfl #[.int .i64 t456, .int .i64 t464] (by rfl) rfl rfl (by (try simp only [map_toArray, map_cons, map_nil]); first | done | rfl | (simp only [length_drop, length_take]; rfl)) ?_
    with_reducible refine (spec_l3Max.calls t456 t464 t470 _ A30.out).mono ?_
    rintro e w' ⟨rfl, ⟨nd, rfl⟩⟩
    refine ⟨_, rfl, ?_⟩
    refine hK.out _ _ ⟨(z0q BK446.out 0).trans rfl, (z0q BK446.out 1).trans rfl, (z0q BK446.out 2).trans rfl, (z0q BK446.out 3).trans rfl, (z0q BK446.out 4).trans rfl, (z0q BK446.out 5).trans rfl, (z0q BK446.out 6).trans rfl, (z0q BK446.out 7).trans rfl, (z0q BK447.out 0).trans rfl, (z0q BK447.out 1).trans rfl, (z0q BK447.out 2).trans rfl, (z0q BK447.out 3).trans rfl, (z0q BK447.out 4).trans rfl, (z0q BK447.out 5).trans rfl, (z0q BK447.out 6).trans rfl, (z0q BK447.out 7).trans rfl⟩ (fun hHeld => ?_)
    clear hK K
    refine norm_ (a' := ?_) ?_ ?_
    rotate_left
    ·show Act.put _ (some 45) _ = _
     simp only [Act.put, setIfInBounds_toArray, set_cons_zero, set_cons_succ, i64_w, i32_w]
     rfl
    refine one_ (i := 28) (N := some 46) bt9_29 rfl rfl (one_of HT_.out (by kernel_rfl)) (by decide) (fun K hK => ?_)
    refine goes_ Try.func21 (by kernel_rfl) rfl #[.int .i64 t467, .int .i64 t468, .int .i64 t469, .int .i64 t470] (by rfl) rfl rfl (by (try simp only [map_toArray, map_cons, map_nil]); first | done | rfl | (simp only [length_drop, length_take]; rfl)) ?_
    with_reducible refine (spec_l3Area.calls t467 t468 t469 t470 t471 t472 t473 t474 t475 t476 t477 t478 _ A31.out).mono ?_
    rintro e w43 ⟨rfl, hb⟩
    refine ⟨_, rfl, ?_⟩
    have n0_ := Aside0.mk (z2q (cy BK446.out) hb)
    have n1_ := Aside0.mk (z2q (cy BK447.out) hb)
    have n2_ := Aside0.mk (z2q (cy BK448.out) hb)
    have n3_ := Aside0.mk (z8q (ibh HB.out) hb)
    clear BK446
    clear BK447
    clear BK448
    clear HB
    have BK446 := n0_
    have BK447 := n1_
    have BK448 := n2_
    have HB := n3_
    clear n0_ n1_ n2_ n3_
    (try clear hb)
    (try clear hb2)
    (try clear hk)
    (try clear hi)
    refine hK.out _ _ ⟨(z0q BK446.out 0).trans rfl, (z0q BK446.out 1).trans rfl, (z0q BK446.out 2).trans rfl, (z0q BK446.out 3).trans rfl, (z0q BK446.out 4).trans rfl, (z0q BK446.out 5).trans rfl, (z0q BK446.out 6).trans rfl, (z0q BK446.out 7).trans rfl, (z0q BK447.out 0).trans rfl, (z0q BK447.out 1).trans rfl, (z0q BK447.out 2).trans rfl, (z0q BK447.out 3).trans rfl, (z0q BK447.out 4).trans rfl, (z0q BK447.out 5).trans rfl, (z0q BK447.out 6).trans rfl, (z0q BK447.out 7).trans rfl⟩ (fun hHeld => ?_)
    clear hK K
    refine norm_ (a' := ?_) ?_ ?_
    rotate_left
    ·show Act.put _ (some 46) _ = _
     simp only [Act.put, setIfInBounds_toArray, set_cons_zero, set_cons_succ, i64_w, i32_w]
     rfl
    refine one_ (i := 29) (N := none) bt9_30 rfl rfl (one_of HT_.out (by kernel_rfl)) (by decide) (fun K hK => ?_)
    have hs44 : w43.cell? ⟨gb448, 0, none⟩ = some (.int .i64 0) := (z0q BK448.out 0).trans rfl
    have hfs44 := z1q BK448.out 0
    have hns44_0 := NB446_448.out
    have hns44_1 := NB447_448.out
    have hms44_0 := NB448_446.out
    have hms44_1 := NB448_447.out
    have hs45 : w43.cell? ⟨gb448, 1, none⟩ = some (.int .i64 0) := (z0q BK448.out 1).trans rfl
    have hfs45 := z1q BK448.out 1
    have hns45_0 := NB446_448.out
    have hns45_1 := NB447_448.out
    have hms45_0 := NB448_446.out
    have hms45_1 := NB448_447.out
    have hs46 : w43.cell? ⟨gb448, 2, none⟩ = some (.bool false) := (z0q BK448.out 2).trans rfl
    have hfs46 := z1q BK448.out 2
    have hns46_0 := NB446_448.out
    have hns46_1 := NB447_448.out
    have hms46_0 := NB448_446.out
    have hms46_1 := NB448_447.out
    have hs47 : w43.cell? ⟨gb448, 3, none⟩ = some (.bool false) := (z0q BK448.out 3).trans rfl
    have hfs47 := z1q BK448.out 3
    have hns47_0 := NB446_448.out
    have hns47_1 := NB447_448.out
    have hms47_0 := NB448_446.out
    have hms47_1 := NB448_447.out
    have hs48 : w43.cell? ⟨gb448, 4, none⟩ = some (.int .i64 0) := (z0q BK448.out 4).trans rfl
    have hfs48 := z1q BK448.out 4
    have hns48_0 := NB446_448.out
    have hns48_1 := NB447_448.out
    have hms48_0 := NB448_446.out
    have hms48_1 := NB448_447.out
    have hs49 : w43.cell? ⟨gb448, 5, none⟩ = some (.int .i64 0) := (z0q BK448.out 5).trans rfl
    have hfs49 := z1q BK448.out 5
    have hns49_0 := NB446_448.out
    have hns49_1 := NB447_448.out
    have hms49_0 := NB448_446.out
    have hms49_1 := NB448_447.out
    have hs50 : w43.cell? ⟨gb448, 6, none⟩ = some (.bool false) := (z0q BK448.out 6).trans rfl
    have hfs50 := z1q BK448.out 6
    have hns50_0 := NB446_448.out
    have hns50_1 := NB447_448.out
    have hms50_0 := NB448_446.out
    have hms50_1 := NB448_447.out
    have hs51 : w43.cell? ⟨gb448, 7, none⟩ = some (.bool false) := (z0q BK448.out 7).trans rfl
    have hfs51 := z1q BK448.out 7
    have hns51_0 := NB446_448.out
    have hns51_1 := NB447_448.out
    have hms51_0 := NB448_446.out
    have hms51_1 := NB448_447.out
    refine skip_ (w1 := ?_) (by rfl) rfl ?_ ?_
    rotate_left
    ·go_simp
     rfl
    refine hK.out _ _ ⟨((z9q (p := ⟨gb448, _, none⟩) NB446_448.out _).trans (((z9q (p := ⟨gb448, _, none⟩) NB446_448.out _).trans (((z9q (p := ⟨gb448, _, none⟩) NB446_448.out _).trans (((z9q (p := ⟨gb448, _, none⟩) NB446_448.out _).trans (((z9q (p := ⟨gb448, _, none⟩) NB446_448.out _).trans (((z9q (p := ⟨gb448, _, none⟩) NB446_448.out _).trans (((z9q (p := ⟨gb448, _, none⟩) NB446_448.out _).trans (((z9q (p := ⟨gb448, _, none⟩) NB446_448.out _).trans (hHeld.1)))))))))))))))), ((z9q (p := ⟨gb448, _, none⟩) NB446_448.out _).trans (((z9q (p := ⟨gb448, _, none⟩) NB446_448.out _).trans (((z9q (p := ⟨gb448, _, none⟩) NB446_448.out _).trans (((z9q (p := ⟨gb448, _, none⟩) NB446_448.out _).trans (((z9q (p := ⟨gb448, _, none⟩) NB446_448.out _).trans (((z9q (p := ⟨gb448, _, none⟩) NB446_448.out _).trans (((z9q (p := ⟨gb448, _, none⟩) NB446_448.out _).trans (((z9q (p := ⟨gb448, _, none⟩) NB446_448.out _).trans (hHeld.2.1)))))))))))))))), ((z9q (p := ⟨gb448, _, none⟩) NB446_448.out _).trans (((z9q (p := ⟨gb448, _, none⟩) NB446_448.out _).trans (((z9q (p := ⟨gb448, _, none⟩) NB446_448.out _).trans (((z9q (p := ⟨gb448, _, none⟩) NB446_448.out _).trans (((z9q (p := ⟨gb448, _, none⟩) NB446_448.out _).trans (((z9q (p := ⟨gb448, _, none⟩) NB446_448.out _).trans (((z9q (p := ⟨gb448, _, none⟩) NB446_448.out _).trans (((z9q (p := ⟨gb448, _, none⟩) NB446_448.out _).trans (hHeld.2.2.1)))))))))))))))), ((z9q (p := ⟨gb448, _, none⟩) NB446_448.out _).trans (((z9q (p := ⟨gb448, _, none⟩) NB446_448.out _).trans (((z9q (p := ⟨gb448, _, none⟩) NB446_448.out _).trans (((z9q (p := ⟨gb448, _, none⟩) NB446_448.out _).trans (((z9q (p := ⟨gb448, _, none⟩) NB446_448.out _).trans (((z9q (p := ⟨gb448, _, none⟩) NB446_448.out _).trans (((z9q (p := ⟨gb448, _, none⟩) NB446_448.out _).trans (((z9q (p := ⟨gb448, _, none⟩) NB446_448.out _).trans (hHeld.2.2.2.1)))))))))))))))), ((z9q (p := ⟨gb448, _, none⟩) NB446_448.out _).trans (((z9q (p := ⟨gb448, _, none⟩) NB446_448.out _).trans (((z9q (p := ⟨gb448, _, none⟩) NB446_448.out _).trans (((z9q (p := ⟨gb448, _, none⟩) NB446_448.out _).trans (((z9q (p := ⟨gb448, _, none⟩) NB446_448.out _).trans (((z9q (p := ⟨gb448, _, none⟩) NB446_448.out _).trans (((z9q (p := ⟨gb448, _, none⟩) NB446_448.out _).trans (((z9q (p := ⟨gb448, _, none⟩) NB446_448.out _).trans (hHeld.2.2.2.2.1)))))))))))))))), ((z9q (p := ⟨gb448, _, none⟩) NB446_448.out _).trans (((z9q (p := ⟨gb448, _, none⟩) NB446_448.out _).trans (((z9q (p := ⟨gb448, _, none⟩) NB446_448.out _).trans (((z9q (p := ⟨gb448, _, none⟩) NB446_448.out _).trans (((z9q (p := ⟨gb448, _, none⟩) NB446_448.out _).trans (((z9q (p := ⟨gb448, _, none⟩) NB446_448.out _).trans (((z9q (p := ⟨gb448, _, none⟩) NB446_448.out _).trans (((z9q (p := ⟨gb448, _, none⟩) NB446_448.out _).trans (hHeld.2.2.2.2.2.1)))))))))))))))), ((z9q (p := ⟨gb448, _, none⟩) NB446_448.out _).trans (((z9q (p := ⟨gb448, _, none⟩) NB446_448.out _).trans (((z9q (p := ⟨gb448, _, none⟩) NB446_448.out _).trans (((z9q (p := ⟨gb448, _, none⟩) NB446_448.out _).trans (((z9q (p := ⟨gb448, _, none⟩) NB446_448.out _).trans (((z9q (p := ⟨gb448, _, none⟩) NB446_448.out _).trans (((z9q (p := ⟨gb448, _, none⟩) NB446_448.out _).trans (((z9q (p := ⟨gb448, _, none⟩) NB446_448.out _).trans (hHeld.2.2.2.2.2.2.1)))))))))))))))), ((z9q (p := ⟨gb448, _, none⟩) NB446_448.out _).trans (((z9q (p := ⟨gb448, _, none⟩) NB446_448.out _).trans (((z9q (p := ⟨gb448, _, none⟩) NB446_448.out _).trans (((z9q (p := ⟨gb448, _, none⟩) NB446_448.out _).trans (((z9q (p := ⟨gb448, _, none⟩) NB446_448.out _).trans (((z9q (p := ⟨gb448, _, none⟩) NB446_448.out _).trans (((z9q (p := ⟨gb448, _, none⟩) NB446_448.out _).trans (((z9q (p := ⟨gb448, _, none⟩) NB446_448.out _).trans (hHeld.2.2.2.2.2.2.2.1)))))))))))))))), ((z9q (p := ⟨gb448, _, none⟩) NB447_448.out _).trans (((z9q (p := ⟨gb448, _, none⟩) NB447_448.out _).trans (((z9q (p := ⟨gb448, _, none⟩) NB447_448.out _).trans (((z9q (p := ⟨gb448, _, none⟩) NB447_448.out _).trans (((z9q (p := ⟨gb448, _, none⟩) NB447_448.out _).trans (((z9q (p := ⟨gb448, _, none⟩) NB447_448.out _).trans (((z9q (p := ⟨gb448, _, none⟩) NB447_448.out _).trans (((z9q (p := ⟨gb448, _, none⟩) NB447_448.out _).trans (hHeld.2.2.2.2.2.2.2.2.1)))))))))))))))), ((z9q (p := ⟨gb448, _, none⟩) NB447_448.out _).trans (((z9q (p := ⟨gb448, _, none⟩) NB447_448.out _).trans (((z9q (p := ⟨gb448, _, none⟩) NB447_448.out _).trans (((z9q (p := ⟨gb448, _, none⟩) NB447_448.out _).trans (((z9q (p := ⟨gb448, _, none⟩) NB447_448.out _).trans (((z9q (p := ⟨gb448, _, none⟩) NB447_448.out _).trans (((z9q (p := ⟨gb448, _, none⟩) NB447_448.out _).trans (((z9q (p := ⟨gb448, _, none⟩) NB447_448.out _).trans (hHeld.2.2.2.2.2.2.2.2.2.1)))))))))))))))), ((z9q (p := ⟨gb448, _, none⟩) NB447_448.out _).trans (((z9q (p := ⟨gb448, _, none⟩) NB447_448.out _).trans (((z9q (p := ⟨gb448, _, none⟩) NB447_448.out _).trans (((z9q (p := ⟨gb448, _, none⟩) NB447_448.out _).trans (((z9q (p := ⟨gb448, _, none⟩) NB447_448.out _).trans (((z9q (p := ⟨gb448, _, none⟩) NB447_448.out _).trans (((z9q (p := ⟨gb448, _, none⟩) NB447_448.out _).trans (((z9q (p := ⟨gb448, _, none⟩) NB447_448.out _).trans (hHeld.2.2.2.2.2.2.2.2.2.2.1)))))))))))))))), ((z9q (p := ⟨gb448, _, none⟩) NB447_448.out _).trans (((z9q (p := ⟨gb448, _, none⟩) NB447_448.out _).trans (((z9q (p := ⟨gb448, _, none⟩) NB447_448.out _).trans (((z9q (p := ⟨gb448, _, none⟩) NB447_448.out _).trans (((z9q (p := ⟨gb448, _, none⟩) NB447_448.out _).trans (((z9q (p := ⟨gb448, _, none⟩) NB447_448.out _).trans (((z9q (p := ⟨gb448, _, none⟩) NB447_448.out _).trans (((z9q (p := ⟨gb448, _, none⟩) NB447_448.out _).trans (hHeld.2.2.2.2.2.2.2.2.2.2.2.1)))))))))))))))), ((z9q (p := ⟨gb448, _, none⟩) NB447_448.out _).trans (((z9q (p := ⟨gb448, _, none⟩) NB447_448.out _).trans (((z9q (p := ⟨gb448, _, none⟩) NB447_448.out _).trans (((z9q (p := ⟨gb448, _, none⟩) NB447_448.out _).trans (((z9q (p := ⟨gb448, _, none⟩) NB447_448.out _).trans (((z9q (p := ⟨gb448, _, none⟩) NB447_448.out _).trans (((z9q (p := ⟨gb448, _, none⟩) NB447_448.out _).trans (((z9q (p := ⟨gb448, _, none⟩) NB447_448.out _).trans (hHeld.2.2.2.2.2.2.2.2.2.2.2.2.1)))))))))))))))), ((z9q (p := ⟨gb448, _, none⟩) NB447_448.out _).trans (((z9q (p := ⟨gb448, _, none⟩) NB447_448.out _).trans (((z9q (p := ⟨gb448, _, none⟩) NB447_448.out _).trans (((z9q (p := ⟨gb448, _, none⟩) NB447_448.out _).trans (((z9q (p := ⟨gb448, _, none⟩) NB447_448.out _).trans (((z9q (p := ⟨gb448, _, none⟩) NB447_448.out _).trans (((z9q (p := ⟨gb448, _, none⟩) NB447_448.out _).trans (((z9q (p := ⟨gb448, _, none⟩) NB447_448.out _).trans (hHeld.2.2.2.2.2.2.2.2.2.2.2.2.2.1)))))))))))))))), ((z9q (p := ⟨gb448, _, none⟩) NB447_448.out _).trans (((z9q (p := ⟨gb448, _, none⟩) NB447_448.out _).trans (((z9q (p := ⟨gb448, _, none⟩) NB447_448.out _).trans (((z9q (p := ⟨gb448, _, none⟩) NB447_448.out _).trans (((z9q (p := ⟨gb448, _, none⟩) NB447_448.out _).trans (((z9q (p := ⟨gb448, _, none⟩) NB447_448.out _).trans (((z9q (p := ⟨gb448, _, none⟩) NB447_448.out _).trans (((z9q (p := ⟨gb448, _, none⟩) NB447_448.out _).trans (hHeld.2.2.2.2.2.2.2.2.2.2.2.2.2.2.1)))))))))))))))), ((z9q (p := ⟨gb448, _, none⟩) NB447_448.out _).trans (((z9q (p := ⟨gb448, _, none⟩) NB447_448.out _).trans (((z9q (p := ⟨gb448, _, none⟩) NB447_448.out _).trans (((z9q (p := ⟨gb448, _, none⟩) NB447_448.out _).trans (((z9q (p := ⟨gb448, _, none⟩) NB447_448.out _).trans (((z9q (p := ⟨gb448, _, none⟩) NB447_448.out _).trans (((z9q (p := ⟨gb448, _, none⟩) NB447_448.out _).trans (((z9q (p := ⟨gb448, _, none⟩) NB447_448.out _).trans (hHeld.2.2.2.2.2.2.2.2.2.2.2.2.2.2.2))))))))))))))))⟩ (fun hHeld => ?_)
    clear hK K
    refine done_ (done_of HT_.out (by kernel_rfl)) ?_
    try go_wp2
    refine bodyPost_ret (results_cell_row rfl _ _ gb448 26 #[.int .i64 t471, .int .i64 t472, .bool t473, .bool t474, .int .i64 t475, .int .i64 t476, .bool t477, .bool t478] (0, 0) _ rfl (by refine cz ?_; refine z6q (cs := #[.int .i64 t471, .int .i64 t472, .bool t473, .bool t474, .int .i64 t475, .int .i64 t476, .bool t477, .bool false]) ?_ 7 _ rfl; refine cz ?_; refine z6q (cs := #[.int .i64 t471, .int .i64 t472, .bool t473, .bool t474, .int .i64 t475, .int .i64 t476, .bool false, .bool false]) ?_ 6 _ rfl; refine cz ?_; refine z6q (cs := #[.int .i64 t471, .int .i64 t472, .bool t473, .bool t474, .int .i64 t475, .int .i64 0, .bool false, .bool false]) ?_ 5 _ rfl; refine cz ?_; refine z6q (cs := #[.int .i64 t471, .int .i64 t472, .bool t473, .bool t474, .int .i64 0, .int .i64 0, .bool false, .bool false]) ?_ 4 _ rfl; refine cz ?_; refine z6q (cs := #[.int .i64 t471, .int .i64 t472, .bool t473, .bool false, .int .i64 0, .int .i64 0, .bool false, .bool false]) ?_ 3 _ rfl; refine cz ?_; refine z6q (cs := #[.int .i64 t471, .int .i64 t472, .bool false, .bool false, .int .i64 0, .int .i64 0, .bool false, .bool false]) ?_ 2 _ rfl; refine cz ?_; refine z6q (cs := #[.int .i64 t471, .int .i64 0, .bool false, .bool false, .int .i64 0, .int .i64 0, .bool false, .bool false]) ?_ 1 _ rfl; refine cz ?_; refine z6q (cs := #[.int .i64 0, .int .i64 0, .bool false, .bool false, .int .i64 0, .int .i64 0, .bool false, .bool false]) ?_ 0 _ rfl; exact cy BK448.out) Try.underlying26 rfl (by kernel_rfl)) rfl ?_
    exact ⟨by first | rfl | (simp [errW_none, errW_some] <;> rfl) | (simp [*, errW_none, errW_some] <;> rfl), by repeat (first | (with_reducible first | exact HB.out | apply z7q | apply z5q | apply z12q | refine z3q ?_ GE446.out | refine z3q ?_ GE447.out | refine z3q ?_ GE448.out) | exact HB.out)⟩

set_option maxHeartbeats 8000000 in
set_option maxRecDepth 100000 in
theorem spec_Hull.calls (k : Nat) (a0_0 : Int) (a0_1 : Int) (a0_2 : Bool) (a0_3 : Bool) (a0_4 : Int) (a0_5 : Int) (a0_6 : Bool) (a0_7 : Bool) (a1_0 : Int) (a1_1 : Int) (a1_2 : Bool) (a1_3 : Bool) (a1_4 : Int) (a1_5 : Int) (a1_6 : Bool) (a1_7 : Bool) (r1 : Int) (r2 : Int) (r3 : Bool) (r4 : Bool) (r5 : Int) (r6 : Int) (r7 : Bool) (r8 : Bool) (w : World) (h : spec_Hull.f k a0_0 a0_1 a0_2 a0_3 a0_4 a0_5 a0_6 a0_7 a1_0 a1_1 a1_2 a1_3 a1_4 a1_5 a1_6 a1_7 = some (r1, r2, r3, r4, r5, r6, r7, r8)) :
  Calls Try.prog 13 #[.agg #[.int .i64 a0_0, .int .i64 a0_1, .bool a0_2, .bool a0_3, .int .i64 a0_4, .int .i64 a0_5, .bool a0_6, .bool a0_7], .agg #[.int .i64 a1_0, .int .i64 a1_1, .bool a1_2, .bool a1_3, .int .i64 a1_4, .int .i64 a1_5, .bool a1_6, .bool a1_7]] w fun e w' => e = .returned (.agg #[.int .i64 r1, .int .i64 r2, .bool r3, .bool r4, .int .i64 r5, .int .i64 r6, .bool r7, .bool r8]) ∧ Below w.heap.size w w' := by
 have H : ((spec_GoodArea.f a0_0 a0_1 a0_2 a0_3 a0_4 a0_5 a0_6 a0_7).bind fun t449 => (if t449 = true then ((spec_GoodArea.f a1_0 a1_1 a1_2 a1_3 a1_4 a1_5 a1_6 a1_7).bind fun t450 => (spec_Hull.j0 k (!t450) a0_0 a0_1 a0_2 a0_3 a0_4 a0_5 a0_6 a0_7 a1_0 a1_1 a1_2 a1_3 a1_4 a1_5 a1_6 a1_7)) else (spec_Hull.j0 k true a0_0 a0_1 a0_2 a0_3 a0_4 a0_5 a0_6 a0_7 a1_0 a1_1 a1_2 a1_3 a1_4 a1_5 a1_6 a1_7))) = some (r1, r2, r3, r4, r5, r6, r7, r8) := h
 exact spec_Hull.calls_p1 k a0_0 a0_1 a0_2 a0_3 a0_4 a0_5 a0_6 a0_7 a1_0 a1_1 a1_2 a1_3 a1_4 a1_5 a1_6 a1_7 r1 r2 r3 r4 r5 r6 r7 r8 w H

/-! ### laws_FnAreas: function 3 -/

end Go.Proofs.Ytjjignjjnnmajaa.PFnAreas
