/- Functions of the program as Lean functions, and proofs that the Go code comes to their answers: for the law FnAreas; made out of the print by a program of mine (compact.py). No conditions but each theorem's own. -/
import Derived.Test.YtjjignjjnnmajaaMFnAreasa0
import Derived.Test.YtjjignjjnnmajaaMFnAreasa5
import Derived.Test.YtjjignjjnnmajaaMFnAreasa6
namespace Go.Proofs.Ytjjignjjnnmajaa.PFnAreas
open List (map_toArray map_cons map_nil length_drop length_take set_cons_zero set_cons_succ setIfInBounds_toArray)
open Go.RowKit Go.Proofs.YtjjignjjnnmajaaW.PrintWords Go.Proofs.YtjjignjjnnmajaaW.PrintLast Go.Proofs.YtjjignjjnnmajaaW.PrintMore
attribute [local go_sem] max2_int min2_int max_two min_two max_three min_three max_four min_four   -- for this text's walks alone
set_option linter.unusedVariables false
set_option linter.unusedSimpArgs false

attribute [local go_sem high] eqA26
set_option maxHeartbeats 8000000 in
set_option maxRecDepth 100000 in
theorem spec_Without.calls_p1 (k : Nat) (a0_0 : Int) (a0_1 : Int) (a0_2 : Bool) (a0_3 : Bool) (a0_4 : Int) (a0_5 : Int) (a0_6 : Bool) (a0_7 : Bool) (a1_0 : Int) (a1_1 : Int) (a1_2 : Bool) (a1_3 : Bool) (a1_4 : Int) (a1_5 : Int) (a1_6 : Bool) (a1_7 : Bool) (r : List (S26)) (w : World) (H : ((spec_GoodArea.f a0_0 a0_1 a0_2 a0_3 a0_4 a0_5 a0_6 a0_7).bind fun t322 => (if t322 = true then ((spec_GoodArea.f a1_0 a1_1 a1_2 a1_3 a1_4 a1_5 a1_6 a1_7).bind fun t323 => (spec_Without.j0 k (!t323) a0_0 a0_1 a0_2 a0_3 a0_4 a0_5 a0_6 a0_7 a1_0 a1_1 a1_2 a1_3 a1_4 a1_5 a1_6 a1_7)) else (spec_Without.j0 k true a0_0 a0_1 a0_2 a0_3 a0_4 a0_5 a0_6 a0_7 a1_0 a1_1 a1_2 a1_3 a1_4 a1_5 a1_6 a1_7))) = some r) :
  Calls Try.prog 8 #[.agg #[.int .i64 a0_0, .int .i64 a0_1, .bool a0_2, .bool a0_3, .int .i64 a0_4, .int .i64 a0_5, .bool a0_6, .bool a0_7], .agg #[.int .i64 a1_0, .int .i64 a1_1, .bool a1_2, .bool a1_3, .int .i64 a1_4, .int .i64 a1_5, .bool a1_6, .bool a1_7]] w fun e w' => ∃ v0_ : Value, e = .returned (v0_) ∧ Kd.R k26 26 w' w.heap.size (fun _ => True) v0_ r ∧ Below w.heap.size w w' := by
 have hu26 := Try.underlying26
 have HB := Aside0.mk (Below.refl w.heap.size w)
 have HC3 := Aside0.mk H
 clear H
 go_enter Try.func8, Try.ntmps8
 go_upto_region 1 with (first | ((with_reducible refine z22q (N := 2) rfl ?_); refine z20q ?hg (N := 2) ?hd (cs := #[.int .i64 a0_0, .int .i64 a0_1, .bool a0_2, .bool a0_3, .int .i64 a0_4, .int .i64 a0_5, .bool a0_6, .bool a0_7]) (t := 26) ?hr ?_; (case hd => rfl); (case hg => rfl); (case hr => first | (go_simp; done) | (go_simp; rfl)); intro gb320 hg w4 hbox hb; have n0_ := Aside0.mk (z8q (ibh HB.out) hb); have n1_ := Aside0.mk (hbox); have n2_ := Aside0.mk ((by rw [hg]; exact (z13q (ibh HB.out)) : w.heap.size ≤ gb320)); have n3_ := Aside0.mk ((by rw [hg]; exact (z13q (ibh HB.out)) : w.heap.size ≤ gb320)); clear HB; have HB := n0_; have BK320 := n1_; have GW320 := n2_; have GE320 := n3_; clear n0_ n1_ n2_ n3_; clear hb hbox hg) | ((with_reducible refine z22q (N := 3) rfl ?_); refine z20q ?hg (N := 3) ?hd (cs := #[.int .i64 a1_0, .int .i64 a1_1, .bool a1_2, .bool a1_3, .int .i64 a1_4, .int .i64 a1_5, .bool a1_6, .bool a1_7]) (t := 26) ?hr ?_; (case hd => rfl); (case hg => rfl); (case hr => first | (go_simp; done) | (go_simp; rfl)); intro gb321 hg w5 hbox hb; have n0_ := Aside0.mk (z2q (cy BK320.out) hb); have n1_ := Aside0.mk (z8q (ibh HB.out) hb); have n2_ := Aside0.mk (hbox); have n3_ := Aside0.mk ((by rw [hg]; exact (z13q (ibh HB.out)) : w.heap.size ≤ gb321)); have n4_ := Aside0.mk ((by rw [hg]; exact (z13q (ibh HB.out)) : w.heap.size ≤ gb321)); have n5_ := Aside0.mk ((by rw [hg]; exact Nat.ne_of_lt (z14q (cy BK320.out)) : gb320 ≠ gb321)); have n6_ := Aside0.mk ((by rw [hg]; exact Nat.ne_of_gt (z14q (cy BK320.out)) : gb321 ≠ gb320)); clear BK320; clear HB; have BK320 := n0_; have HB := n1_; have BK321 := n2_; have GW321 := n3_; have GE321 := n4_; have NB320_321 := n5_; have NB321_320 := n6_; clear n0_ n1_ n2_ n3_ n4_ n5_ n6_; clear hb hbox hg))
 (try simp only [Act.put, setIfInBounds_toArray, set_cons_zero, set_cons_succ])
 go_cut [15] (fun v15 wc => ∃ (kq : Nat) (x15_2 : Bool), v15 = .bool x15_2 ∧ Aside0 (spec_Without.j0 kq x15_2 a0_0 a0_1 a0_2 a0_3 a0_4 a0_5 a0_6 a0_7 a1_0 a1_1 a1_2 a1_3 a1_4 a1_5 a1_6 a1_7 = some r) ∧ Aside0 (kq ≤ k) ∧ Aside0 (wc.heap[gb320]? = some (.cells #[.int .i64 a0_0, .int .i64 a0_1, .bool a0_2, .bool a0_3, .int .i64 a0_4, .int .i64 a0_5, .bool a0_6, .bool a0_7] 26 (0, 0))) ∧ Aside0 (wc.heap[gb321]? = some (.cells #[.int .i64 a1_0, .int .i64 a1_1, .bool a1_2, .bool a1_3, .int .i64 a1_4, .int .i64 a1_5, .bool a1_6, .bool a1_7] 26 (0, 0))) ∧ Aside0 (Below w.heap.size w wc))
 case first =>
  have H := HC3.out
  clear HC3
  replace H := Option.bind_eq_some_iff.mp H
  obtain ⟨t322, A60, H⟩ := H
  replace H : (if t322 = true then ((spec_GoodArea.f a1_0 a1_1 a1_2 a1_3 a1_4 a1_5 a1_6 a1_7).bind fun t323 => (spec_Without.j0 k (!t323) a0_0 a0_1 a0_2 a0_3 a0_4 a0_5 a0_6 a0_7 a1_0 a1_1 a1_2 a1_3 a1_4 a1_5 a1_6 a1_7)) else (spec_Without.j0 k true a0_0 a0_1 a0_2 a0_3 a0_4 a0_5 a0_6 a0_7 a1_0 a1_1 a1_2 a1_3 a1_4 a1_5 a1_6 a1_7)) = some r := H
  have A6 := Aside0.mk A60
  clear A60
  by_cases c7 : t322 = true
  ·subst c7
   have H1 : ((spec_GoodArea.f a1_0 a1_1 a1_2 a1_3 a1_4 a1_5 a1_6 a1_7).bind fun t323 => (spec_Without.j0 k (!t323) a0_0 a0_1 a0_2 a0_3 a0_4 a0_5 a0_6 a0_7 a1_0 a1_1 a1_2 a1_3 a1_4 a1_5 a1_6 a1_7)) = some r := by rw [if_pos rfl] at H; exact H
   clear H
   have H := H1
   clear H1
   replace H := Option.bind_eq_some_iff.mp H
   obtain ⟨t323, A80, H⟩ := H
   replace H : (spec_Without.j0 k (!t323) a0_0 a0_1 a0_2 a0_3 a0_4 a0_5 a0_6 a0_7 a1_0 a1_1 a1_2 a1_3 a1_4 a1_5 a1_6 a1_7) = some r := H
   have A8 := Aside0.mk A80
   clear A80
   have H' := Aside0.mk H
   clear H
   have hnb9 := NB320_321.out
   have hnc9 := NB321_320.out
   have hcz10_0 : w5.cell? ⟨gb320, 0, none⟩ = some (.int .i64 a0_0) := (z0q BK320.out 0).trans rfl
   have hcz10_1 : w5.cell? ⟨gb320, 1, none⟩ = some (.int .i64 a0_1) := (z0q BK320.out 1).trans rfl
   have hcz10_2 : w5.cell? ⟨gb320, 2, none⟩ = some (.bool a0_2) := (z0q BK320.out 2).trans rfl
   have hcz10_3 : w5.cell? ⟨gb320, 3, none⟩ = some (.bool a0_3) := (z0q BK320.out 3).trans rfl
   have hcz10_4 : w5.cell? ⟨gb320, 4, none⟩ = some (.int .i64 a0_4) := (z0q BK320.out 4).trans rfl
   have hcz10_5 : w5.cell? ⟨gb320, 5, none⟩ = some (.int .i64 a0_5) := (z0q BK320.out 5).trans rfl
   have hcz10_6 : w5.cell? ⟨gb320, 6, none⟩ = some (.bool a0_6) := (z0q BK320.out 6).trans rfl
   have hcz10_7 : w5.cell? ⟨gb320, 7, none⟩ = some (.bool a0_7) := (z0q BK320.out 7).trans rfl
   have hfz10_0 := z1q BK320.out 0
   have hfz10_1 := z1q BK320.out 1
   have hfz10_2 := z1q BK320.out 2
   have hfz10_3 := z1q BK320.out 3
   have hfz10_4 := z1q BK320.out 4
   have hfz10_5 := z1q BK320.out 5
   have hfz10_6 := z1q BK320.out 6
   have hfz10_7 := z1q BK320.out 7
   go_wp2_with (first | ((with_reducible refine z15q (f := 9) rfl ?_); refine z23q (some 9) rfl rfl Try.func9 (by kernel_rfl) rfl #[.agg #[.int .i64 a0_0, .int .i64 a0_1, .bool a0_2, .bool a0_3, .int .i64 a0_4, .int .i64 a0_5, .bool a0_6, .bool a0_7]] rfl (by (try simp only [map_toArray, map_cons, map_nil]); first | done | rfl | (simp only [length_drop, length_take]; rfl)) ?_; (with_reducible refine (spec_GoodArea.calls a0_0 a0_1 a0_2 a0_3 a0_4 a0_5 a0_6 a0_7 true _ A6.out).mono ?_); rintro e w11 ⟨rfl, hb⟩; refine ⟨_, rfl, ?_⟩; have n0_ := Aside0.mk (z2q (cy BK320.out) hb); have n1_ := Aside0.mk (z2q (cy BK321.out) hb); have n2_ := Aside0.mk (z8q (ibh HB.out) hb); clear BK320; clear BK321; clear HB; have BK320 := n0_; have BK321 := n1_; have HB := n2_; clear n0_ n1_ n2_; (try clear hb); (try clear hb2); (try clear hk); (try clear hi); have hcz12_0 : w11.cell? ⟨gb321, 0, none⟩ = some (.int .i64 a1_0) := (z0q BK321.out 0).trans rfl; have hcz12_1 : w11.cell? ⟨gb321, 1, none⟩ = some (.int .i64 a1_1) := (z0q BK321.out 1).trans rfl; have hcz12_2 : w11.cell? ⟨gb321, 2, none⟩ = some (.bool a1_2) := (z0q BK321.out 2).trans rfl; have hcz12_3 : w11.cell? ⟨gb321, 3, none⟩ = some (.bool a1_3) := (z0q BK321.out 3).trans rfl; have hcz12_4 : w11.cell? ⟨gb321, 4, none⟩ = some (.int .i64 a1_4) := (z0q BK321.out 4).trans rfl; have hcz12_5 : w11.cell? ⟨gb321, 5, none⟩ = some (.int .i64 a1_5) := (z0q BK321.out 5).trans rfl; have hcz12_6 : w11.cell? ⟨gb321, 6, none⟩ = some (.bool a1_6) := (z0q BK321.out 6).trans rfl; have hcz12_7 : w11.cell? ⟨gb321, 7, none⟩ = some (.bool a1_7) := (z0q BK321.out 7).trans rfl; have hfz12_0 := z1q BK321.out 0; have hfz12_1 := z1q BK321.out 1; have hfz12_2 := z1q BK321.out 2; have hfz12_3 := z1q BK321.out 3; have hfz12_4 := z1q BK321.out 4; have hfz12_5 := z1q BK321.out 5; have hfz12_6 := z1q BK321.out 6; have hfz12_7 := z1q BK321.out 7) | (go_at_call 9; (with_reducible refine (spec_GoodArea.calls a1_0 a1_1 a1_2 a1_3 a1_4 a1_5 a1_6 a1_7 t323 _ A8.out).mono ?_); rintro e w13 ⟨rfl, hb⟩; have n0_ := Aside0.mk (z2q (cy BK320.out) hb); have n1_ := Aside0.mk (z2q (cy BK321.out) hb); have n2_ := Aside0.mk (z8q (ibh HB.out) hb); clear BK320; clear BK321; clear HB; have BK320 := n0_; have BK321 := n1_; have HB := n2_; clear n0_ n1_ n2_; (try clear hb); (try clear hb2); (try clear hk); (try clear hi)))
   go_meet
   case rel => exact ⟨_, (!t323), (by first | rfl | (simp; done) | (simp [*]; done) | (simp; unfold wrap64; omega)), H', ⟨by first | omega | exact Nat.le_refl _⟩, ⟨by (with_reducible repeat (first | refine z11q ?_ _ | refine z10q ?_ | refine z4q ?_ _)); exact BK320.out⟩, ⟨by (with_reducible repeat (first | refine z11q ?_ _ | refine z10q ?_ | refine z4q ?_ _)); exact BK321.out⟩, ⟨by repeat (first | (with_reducible first | exact HB.out | apply z7q | apply z5q | apply z12q | refine z3q ?_ GE320.out | refine z3q ?_ GE321.out) | exact HB.out)⟩⟩
  ·replace c7 := Bool.eq_false_iff.mpr c7
   subst c7
   have H1 : (spec_Without.j0 k true a0_0 a0_1 a0_2 a0_3 a0_4 a0_5 a0_6 a0_7 a1_0 a1_1 a1_2 a1_3 a1_4 a1_5 a1_6 a1_7) = some r := by rw [if_neg (show ¬ (false = true) by decide)] at H; exact H
   clear H
   have H := H1
   clear H1
   have H' := Aside0.mk H
   clear H
   have hnb14 := NB320_321.out
   have hnc14 := NB321_320.out
   have hcz15_0 : w5.cell? ⟨gb320, 0, none⟩ = some (.int .i64 a0_0) := (z0q BK320.out 0).trans rfl
   have hcz15_1 : w5.cell? ⟨gb320, 1, none⟩ = some (.int .i64 a0_1) := (z0q BK320.out 1).trans rfl
   have hcz15_2 : w5.cell? ⟨gb320, 2, none⟩ = some (.bool a0_2) := (z0q BK320.out 2).trans rfl
   have hcz15_3 : w5.cell? ⟨gb320, 3, none⟩ = some (.bool a0_3) := (z0q BK320.out 3).trans rfl
   have hcz15_4 : w5.cell? ⟨gb320, 4, none⟩ = some (.int .i64 a0_4) := (z0q BK320.out 4).trans rfl
   have hcz15_5 : w5.cell? ⟨gb320, 5, none⟩ = some (.int .i64 a0_5) := (z0q BK320.out 5).trans rfl
   have hcz15_6 : w5.cell? ⟨gb320, 6, none⟩ = some (.bool a0_6) := (z0q BK320.out 6).trans rfl
   have hcz15_7 : w5.cell? ⟨gb320, 7, none⟩ = some (.bool a0_7) := (z0q BK320.out 7).trans rfl
   have hfz15_0 := z1q BK320.out 0
   have hfz15_1 := z1q BK320.out 1
   have hfz15_2 := z1q BK320.out 2
   have hfz15_3 := z1q BK320.out 3
   have hfz15_4 := z1q BK320.out 4
   have hfz15_5 := z1q BK320.out 5
   have hfz15_6 := z1q BK320.out 6
   have hfz15_7 := z1q BK320.out 7
   go_wp2_with (first | ((with_reducible refine z15q (f := 9) rfl ?_); refine z23q (some 9) rfl rfl Try.func9 (by kernel_rfl) rfl #[.agg #[.int .i64 a0_0, .int .i64 a0_1, .bool a0_2, .bool a0_3, .int .i64 a0_4, .int .i64 a0_5, .bool a0_6, .bool a0_7]] rfl (by (try simp only [map_toArray, map_cons, map_nil]); first | done | rfl | (simp only [length_drop, length_take]; rfl)) ?_; (with_reducible refine (spec_GoodArea.calls a0_0 a0_1 a0_2 a0_3 a0_4 a0_5 a0_6 a0_7 false _ A6.out).mono ?_); rintro e w16 ⟨rfl, hb⟩; refine ⟨_, rfl, ?_⟩; have n0_ := Aside0.mk (z2q (cy BK320.out) hb); have n1_ := Aside0.mk (z2q (cy BK321.out) hb); have n2_ := Aside0.mk (z8q (ibh HB.out) hb); clear BK320; clear BK321; clear HB; have BK320 := n0_; have BK321 := n1_; have HB := n2_; clear n0_ n1_ n2_; (try clear hb); (try clear hb2); (try clear hk); (try clear hi)))
   go_meet
   case rel => exact ⟨_, (true), (by first | rfl | (simp; done) | (simp [*]; done) | (simp; unfold wrap64; omega)), H', ⟨by first | omega | exact Nat.le_refl _⟩, ⟨by (with_reducible repeat (first | refine z11q ?_ _ | refine z10q ?_ | refine z4q ?_ _)); exact BK320.out⟩, ⟨by (with_reducible repeat (first | refine z11q ?_ _ | refine z10q ?_ | refine z4q ?_ _)); exact BK321.out⟩, ⟨by repeat (first | (with_reducible first | exact HB.out | apply z7q | apply z5q | apply z12q | refine z3q ?_ GE320.out | refine z3q ?_ GE321.out) | exact HB.out)⟩⟩
 case rest =>
  clear HC3
  try clear c1
  try clear p2
  try clear c7
  try clear c8
  try clear c9
  try clear c14
  try clear hcz10_0
  try clear hcz10_1
  try clear hcz10_2
  try clear hcz10_3
  try clear hcz10_4
  try clear hcz10_5
  try clear hcz10_6
  try clear hcz10_7
  try clear hcz12_0
  try clear hcz12_1
  try clear hcz12_2
  try clear hcz12_3
  try clear hcz12_4
  try clear hcz12_5
  try clear hcz12_6
  try clear hcz12_7
  try clear hcz15_0
  try clear hcz15_1
  try clear hcz15_2
  try clear hcz15_3
  try clear hcz15_4
  try clear hcz15_5
  try clear hcz15_6
  try clear hcz15_7
  try clear hfz10_0
  try clear hfz10_1
  try clear hfz10_2
  try clear hfz10_3
  try clear hfz10_4
  try clear hfz10_5
  try clear hfz10_6
  try clear hfz10_7
  try clear hfz12_0
  try clear hfz12_1
  try clear hfz12_2
  try clear hfz12_3
  try clear hfz12_4
  try clear hfz12_5
  try clear hfz12_6
  try clear hfz12_7
  try clear hfz15_0
  try clear hfz15_1
  try clear hfz15_2
  try clear hfz15_3
  try clear hfz15_4
  try clear hfz15_5
  try clear hfz15_6
  try clear hfz15_7
  obtain ⟨kq, x15_2, rfl, HA, HJ2, BK320, BK321, HB⟩ := hcut
  cases kq with
  | zero => exact absurd HA.out (by simp [spec_Without.j0])
  | succ kj2 =>
   have H := HA.out
   clear HA
   simp only [spec_Without.j0] at H
   by_cases c17 : x15_2 = true
   ·subst c17
    have H1 : (some ([] : List (S26))) = some r := by rw [if_pos rfl] at H; exact H
    clear H
    have H := H1
    clear H1
    obtain rfl := Option.some.inj H
    go_wp2
    go_ret
    exact ⟨_, by first | rfl | (simp [errW_none, errW_some] <;> rfl) | (simp [*, errW_none, errW_some] <;> rfl), by first | exact Kd.R_nil _ _ _ _ _ | exact Kd.N_nil _ _ _ _ _ | exact Kd.V_nil _ _ _ _ _ | exact Kd.Q_nil _ _ _ _ _ | exact Kd.S_nil _ _ _ _ _, by repeat (first | (with_reducible first | exact HB.out | apply z7q | apply z5q | apply z12q | refine z3q ?_ GE320.out | refine z3q ?_ GE321.out) | exact HB.out)⟩
   ·replace c17 := Bool.eq_false_iff.mpr c17
    subst c17
    have H1 : ((spec_l3Normal.f a0_0 a0_1 a0_2 a0_3 a0_4 a0_5 a0_6 a0_7).bind fun bt324 => ((spec_Meet.f kj2 bt324.1 bt324.2.1 bt324.2.2.1 bt324.2.2.2.1 bt324.2.2.2.2.1 bt324.2.2.2.2.2.1 bt324.2.2.2.2.2.2.1 bt324.2.2.2.2.2.2.2 a1_0 a1_1 a1_2 a1_3 a1_4 a1_5 a1_6 a1_7).bind fun bt332 => (if bt332.2.2.2.2.2.2.2.2 = true then (if bt324.1 < bt332.1 then ((spec_l3Area.f bt324.1 bt324.2.1 (wrap64 (bt332.1 - 1)) bt324.2.2.2.2.2.1).bind fun bt353 => (if ([] : List (S26)).length < 2932031007402 then (spec_Without.j1 kj2 (([] : List (S26)) ++ [(⟨(⟨bt353.1, bt353.2.1, bt353.2.2.1, bt353.2.2.2.1⟩ : S24), (⟨bt353.2.2.2.2.1, bt353.2.2.2.2.2.1, bt353.2.2.2.2.2.2.1, bt353.2.2.2.2.2.2.2⟩ : S24)⟩ : S26)]) bt324.1 bt324.2.1 bt324.2.2.1 bt324.2.2.2.1 bt324.2.2.2.2.1 bt324.2.2.2.2.2.1 bt324.2.2.2.2.2.2.1 bt324.2.2.2.2.2.2.2 bt332.1 bt332.2.1 bt332.2.2.1 bt332.2.2.2.1 bt332.2.2.2.2.1 bt332.2.2.2.2.2.1 bt332.2.2.2.2.2.2.1 bt332.2.2.2.2.2.2.2.1) else (none))) else (spec_Without.j1 kj2 ([] : List (S26)) bt324.1 bt324.2.1 bt324.2.2.1 bt324.2.2.2.1 bt324.2.2.2.2.1 bt324.2.2.2.2.2.1 bt324.2.2.2.2.2.2.1 bt324.2.2.2.2.2.2.2 bt332.1 bt332.2.1 bt332.2.2.1 bt332.2.2.2.1 bt332.2.2.2.2.1 bt332.2.2.2.2.2.1 bt332.2.2.2.2.2.2.1 bt332.2.2.2.2.2.2.2.1)) else ((spec_l3Area.f bt324.1 bt324.2.1 bt324.2.2.2.2.1 bt324.2.2.2.2.2.1).bind fun bt342 => (some (([(⟨(⟨bt342.1, bt342.2.1, bt342.2.2.1, bt342.2.2.2.1⟩ : S24), (⟨bt342.2.2.2.2.1, bt342.2.2.2.2.2.1, bt342.2.2.2.2.2.2.1, bt342.2.2.2.2.2.2.2⟩ : S24)⟩ : S26)] : List (S26)))))))) = some r := by rw [if_neg (show ¬ (false = true) by decide)] at H; exact H
    clear H
    have H := H1
    clear H1
    replace H := Option.bind_eq_some_iff.mp H
    obtain ⟨⟨t324, t325, t326, t327, t328, t329, t330, t331⟩, A180, H⟩ := H
    replace H : ((spec_Meet.f kj2 t324 t325 t326 t327 t328 t329 t330 t331 a1_0 a1_1 a1_2 a1_3 a1_4 a1_5 a1_6 a1_7).bind fun bt332 => (if bt332.2.2.2.2.2.2.2.2 = true then (if t324 < bt332.1 then ((spec_l3Area.f t324 t325 (wrap64 (bt332.1 - 1)) t329).bind fun bt353 => (if ([] : List (S26)).length < 2932031007402 then (spec_Without.j1 kj2 (([] : List (S26)) ++ [(⟨(⟨bt353.1, bt353.2.1, bt353.2.2.1, bt353.2.2.2.1⟩ : S24), (⟨bt353.2.2.2.2.1, bt353.2.2.2.2.2.1, bt353.2.2.2.2.2.2.1, bt353.2.2.2.2.2.2.2⟩ : S24)⟩ : S26)]) t324 t325 t326 t327 t328 t329 t330 t331 bt332.1 bt332.2.1 bt332.2.2.1 bt332.2.2.2.1 bt332.2.2.2.2.1 bt332.2.2.2.2.2.1 bt332.2.2.2.2.2.2.1 bt332.2.2.2.2.2.2.2.1) else (none))) else (spec_Without.j1 kj2 ([] : List (S26)) t324 t325 t326 t327 t328 t329 t330 t331 bt332.1 bt332.2.1 bt332.2.2.1 bt332.2.2.2.1 bt332.2.2.2.2.1 bt332.2.2.2.2.2.1 bt332.2.2.2.2.2.2.1 bt332.2.2.2.2.2.2.2.1)) else ((spec_l3Area.f t324 t325 t328 t329).bind fun bt342 => (some (([(⟨(⟨bt342.1, bt342.2.1, bt342.2.2.1, bt342.2.2.2.1⟩ : S24), (⟨bt342.2.2.2.2.1, bt342.2.2.2.2.2.1, bt342.2.2.2.2.2.2.1, bt342.2.2.2.2.2.2.2⟩ : S24)⟩ : S26)] : List (S26))))))) = some r := H
    have A18 := Aside0.mk A180
    clear A180
    replace H := Option.bind_eq_some_iff.mp H
    obtain ⟨⟨t332, t333, t334, t335, t336, t337, t338, t339, t340⟩, A190, H⟩ := H
    replace H : (if t340 = true then (if t324 < t332 then ((spec_l3Area.f t324 t325 (wrap64 (t332 - 1)) t329).bind fun bt353 => (if ([] : List (S26)).length < 2932031007402 then (spec_Without.j1 kj2 (([] : List (S26)) ++ [(⟨(⟨bt353.1, bt353.2.1, bt353.2.2.1, bt353.2.2.2.1⟩ : S24), (⟨bt353.2.2.2.2.1, bt353.2.2.2.2.2.1, bt353.2.2.2.2.2.2.1, bt353.2.2.2.2.2.2.2⟩ : S24)⟩ : S26)]) t324 t325 t326 t327 t328 t329 t330 t331 t332 t333 t334 t335 t336 t337 t338 t339) else (none))) else (spec_Without.j1 kj2 ([] : List (S26)) t324 t325 t326 t327 t328 t329 t330 t331 t332 t333 t334 t335 t336 t337 t338 t339)) else ((spec_l3Area.f t324 t325 t328 t329).bind fun bt342 => (some (([(⟨(⟨bt342.1, bt342.2.1, bt342.2.2.1, bt342.2.2.2.1⟩ : S24), (⟨bt342.2.2.2.2.1, bt342.2.2.2.2.2.1, bt342.2.2.2.2.2.2.1, bt342.2.2.2.2.2.2.2⟩ : S24)⟩ : S26)] : List (S26)))))) = some r := H
    have A19 := Aside0.mk A190
    clear A190
    by_cases c20 : t340 = true
    ·subst c20
     have H1 : (if t324 < t332 then ((spec_l3Area.f t324 t325 (wrap64 (t332 - 1)) t329).bind fun bt353 => (if ([] : List (S26)).length < 2932031007402 then (spec_Without.j1 kj2 (([] : List (S26)) ++ [(⟨(⟨bt353.1, bt353.2.1, bt353.2.2.1, bt353.2.2.2.1⟩ : S24), (⟨bt353.2.2.2.2.1, bt353.2.2.2.2.2.1, bt353.2.2.2.2.2.2.1, bt353.2.2.2.2.2.2.2⟩ : S24)⟩ : S26)]) t324 t325 t326 t327 t328 t329 t330 t331 t332 t333 t334 t335 t336 t337 t338 t339) else (none))) else (spec_Without.j1 kj2 ([] : List (S26)) t324 t325 t326 t327 t328 t329 t330 t331 t332 t333 t334 t335 t336 t337 t338 t339)) = some r := by rw [if_pos rfl] at H; exact H
     clear H
     have H := H1
     clear H1
     have HC21 := Aside0.mk H
     clear H
     have hnb22 := NB320_321.out
     have hnc22 := NB321_320.out
     have hcz23_0 : wc.cell? ⟨gb320, 0, none⟩ = some (.int .i64 a0_0) := (z0q BK320.out 0).trans rfl
     have hcz23_1 : wc.cell? ⟨gb320, 1, none⟩ = some (.int .i64 a0_1) := (z0q BK320.out 1).trans rfl
     have hcz23_2 : wc.cell? ⟨gb320, 2, none⟩ = some (.bool a0_2) := (z0q BK320.out 2).trans rfl
     have hcz23_3 : wc.cell? ⟨gb320, 3, none⟩ = some (.bool a0_3) := (z0q BK320.out 3).trans rfl
     have hcz23_4 : wc.cell? ⟨gb320, 4, none⟩ = some (.int .i64 a0_4) := (z0q BK320.out 4).trans rfl
     have hcz23_5 : wc.cell? ⟨gb320, 5, none⟩ = some (.int .i64 a0_5) := (z0q BK320.out 5).trans rfl
     have hcz23_6 : wc.cell? ⟨gb320, 6, none⟩ = some (.bool a0_6) := (z0q BK320.out 6).trans rfl
     have hcz23_7 : wc.cell? ⟨gb320, 7, none⟩ = some (.bool a0_7) := (z0q BK320.out 7).trans rfl
     have hfz23_0 := z1q BK320.out 0
     have hfz23_1 := z1q BK320.out 1
     have hfz23_2 := z1q BK320.out 2
     have hfz23_3 := z1q BK320.out 3
     have hfz23_4 := z1q BK320.out 4
     have hfz23_5 := z1q BK320.out 5
     have hfz23_6 := z1q BK320.out 6
     have hfz23_7 := z1q BK320.out 7
     go_upto_if 46 with (first | ((with_reducible refine z15q (f := 20) rfl ?_); refine z23q (some 17) rfl rfl Try.func20 (by kernel_rfl) rfl #[.agg #[.int .i64 a0_0, .int .i64 a0_1, .bool a0_2, .bool a0_3, .int .i64 a0_4, .int .i64 a0_5, .bool a0_6, .bool a0_7]] rfl (by (try simp only [map_toArray, map_cons, map_nil]); first | done | rfl | (simp only [length_drop, length_take]; rfl)) ?_; (with_reducible refine (spec_l3Normal.calls a0_0 a0_1 a0_2 a0_3 a0_4 a0_5 a0_6 a0_7 t324 t325 t326 t327 t328 t329 t330 t331 _ A18.out).mono ?_); rintro e w24 ⟨rfl, hb⟩; refine ⟨_, rfl, ?_⟩; have n0_ := Aside0.mk (z2q (cy BK320.out) hb); have n1_ := Aside0.mk (z2q (cy BK321.out) hb); have n2_ := Aside0.mk (z8q (ibh HB.out) hb); clear BK320; clear BK321; clear HB; have BK320 := n0_; have BK321 := n1_; have HB := n2_; clear n0_ n1_ n2_; (try clear hb); (try clear hb2); (try clear hk); (try clear hi); have hcz25_0 : w24.cell? ⟨gb320, 0, none⟩ = some (.int .i64 a0_0) := (z0q BK320.out 0).trans rfl; have hcz25_1 : w24.cell? ⟨gb320, 1, none⟩ = some (.int .i64 a0_1) := (z0q BK320.out 1).trans rfl; have hcz25_2 : w24.cell? ⟨gb320, 2, none⟩ = some (.bool a0_2) := (z0q BK320.out 2).trans rfl; have hcz25_3 : w24.cell? ⟨gb320, 3, none⟩ = some (.bool a0_3) := (z0q BK320.out 3).trans rfl; have hcz25_4 : w24.cell? ⟨gb320, 4, none⟩ = some (.int .i64 a0_4) := (z0q BK320.out 4).trans rfl; have hcz25_5 : w24.cell? ⟨gb320, 5, none⟩ = some (.int .i64 a0_5) := (z0q BK320.out 5).trans rfl; have hcz25_6 : w24.cell? ⟨gb320, 6, none⟩ = some (.bool a0_6) := (z0q BK320.out 6).trans rfl; have hcz25_7 : w24.cell? ⟨gb320, 7, none⟩ = some (.bool a0_7) := (z0q BK320.out 7).trans rfl; have hfz25_0 := z1q BK320.out 0; have hfz25_1 := z1q BK320.out 1; have hfz25_2 := z1q BK320.out 2; have hfz25_3 := z1q BK320.out 3; have hfz25_4 := z1q BK320.out 4; have hfz25_5 := z1q BK320.out 5; have hfz25_6 := z1q BK320.out 6; have hfz25_7 := z1q BK320.out 7; have hcz26_0 : w24.cell? ⟨gb321, 0, none⟩ = some (.int .i64 a1_0) := (z0q BK321.out 0).trans rfl; have hcz26_1 : w24.cell? ⟨gb321, 1, none⟩ = some (.int .i64 a1_1) := (z0q BK321.out 1).trans rfl; have hcz26_2 : w24.cell? ⟨gb321, 2, none⟩ = some (.bool a1_2) := (z0q BK321.out 2).trans rfl; have hcz26_3 : w24.cell? ⟨gb321, 3, none⟩ = some (.bool a1_3) := (z0q BK321.out 3).trans rfl; have hcz26_4 : w24.cell? ⟨gb321, 4, none⟩ = some (.int .i64 a1_4) := (z0q BK321.out 4).trans rfl; have hcz26_5 : w24.cell? ⟨gb321, 5, none⟩ = some (.int .i64 a1_5) := (z0q BK321.out 5).trans rfl; have hcz26_6 : w24.cell? ⟨gb321, 6, none⟩ = some (.bool a1_6) := (z0q BK321.out 6).trans rfl; have hcz26_7 : w24.cell? ⟨gb321, 7, none⟩ = some (.bool a1_7) := (z0q BK321.out 7).trans rfl; have hfz26_0 := z1q BK321.out 0; have hfz26_1 := z1q BK321.out 1; have hfz26_2 := z1q BK321.out 2; have hfz26_3 := z1q BK321.out 3; have hfz26_4 := z1q BK321.out 4; have hfz26_5 := z1q BK321.out 5; have hfz26_6 := z1q BK321.out 6; have hfz26_7 := z1q BK321.out 7) | ((with_reducible refine z15q (f := 12) rfl ?_); refine z23q (some 21) rfl rfl Try.func12 (by kernel_rfl) rfl #[.agg #[.int .i64 t324, .int .i64 t325, .bool t326, .bool t327, .int .i64 t328, .int .i64 t329, .bool t330, .bool t331], .agg #[.int .i64 a1_0, .int .i64 a1_1, .bool a1_2, .bool a1_3, .int .i64 a1_4, .int .i64 a1_5, .bool a1_6, .bool a1_7]] rfl (by (try simp only [map_toArray, map_cons, map_nil]); first | done | rfl | (simp only [length_drop, length_take]; rfl)) ?_; (with_reducible refine (spec_Meet.calls kj2 t324 t325 t326 t327 t328 t329 t330 t331 a1_0 a1_1 a1_2 a1_3 a1_4 a1_5 a1_6 a1_7 t332 t333 t334 t335 t336 t337 t338 t339 true _ A19.out).mono ?_); rintro e w27 ⟨rfl, hb⟩; refine ⟨_, rfl, ?_⟩; have n0_ := Aside0.mk (z2q (g := gb320) (o := .cells #[.int .i64 t324, .int .i64 t325, .bool t326, .bool t327, .int .i64 t328, .int .i64 t329, .bool t330, .bool t331] 26 (0, 0)) (by refine cz ?_; refine z6q (cs := #[.int .i64 t324, .int .i64 t325, .bool t326, .bool t327, .int .i64 t328, .int .i64 t329, .bool t330, .bool a0_7]) ?_ 7 _ rfl; refine cz ?_; refine z6q (cs := #[.int .i64 t324, .int .i64 t325, .bool t326, .bool t327, .int .i64 t328, .int .i64 t329, .bool a0_6, .bool a0_7]) ?_ 6 _ rfl; refine cz ?_; refine z6q (cs := #[.int .i64 t324, .int .i64 t325, .bool t326, .bool t327, .int .i64 t328, .int .i64 a0_5, .bool a0_6, .bool a0_7]) ?_ 5 _ rfl; refine cz ?_; refine z6q (cs := #[.int .i64 t324, .int .i64 t325, .bool t326, .bool t327, .int .i64 a0_4, .int .i64 a0_5, .bool a0_6, .bool a0_7]) ?_ 4 _ rfl; refine cz ?_; refine z6q (cs := #[.int .i64 t324, .int .i64 t325, .bool t326, .bool a0_3, .int .i64 a0_4, .int .i64 a0_5, .bool a0_6, .bool a0_7]) ?_ 3 _ rfl; refine cz ?_; refine z6q (cs := #[.int .i64 t324, .int .i64 t325, .bool a0_2, .bool a0_3, .int .i64 a0_4, .int .i64 a0_5, .bool a0_6, .bool a0_7]) ?_ 2 _ rfl; refine cz ?_; refine z6q (cs := #[.int .i64 t324, .int .i64 a0_1, .bool a0_2, .bool a0_3, .int .i64 a0_4, .int .i64 a0_5, .bool a0_6, .bool a0_7]) ?_ 1 _ rfl; refine cz ?_; refine z6q (cs := #[.int .i64 a0_0, .int .i64 a0_1, .bool a0_2, .bool a0_3, .int .i64 a0_4, .int .i64 a0_5, .bool a0_6, .bool a0_7]) ?_ 0 _ rfl; exact cy BK320.out) hb); have n1_ := Aside0.mk (z2q (cy BK321.out) hb); have n2_ := Aside0.mk (z8q (ibh HB.out) hb); clear BK320; clear BK321; clear HB; have BK320 := n0_; have BK321 := n1_; have HB := n2_; clear n0_ n1_ n2_; (try clear hb); (try clear hb2); (try clear hk); (try clear hi)) | ((with_reducible refine z22q (N := 5) rfl ?_); refine z20q ?hg (N := 5) ?hd (cs := #[.int .i64 0, .int .i64 0, .bool false, .bool false, .int .i64 0, .int .i64 0, .bool false, .bool false]) (t := 26) ?hr ?_; (case hd => rfl); (case hg => rfl); (case hr => first | (go_simp; done) | (go_simp; rfl)); intro gb341 hg w28 hbox hb; have n0_ := Aside0.mk (z2q (cy BK320.out) hb); have n1_ := Aside0.mk (z2q (cy BK321.out) hb); have n2_ := Aside0.mk (z8q (ibh HB.out) hb); have n3_ := Aside0.mk (hbox); have n4_ := Aside0.mk ((by rw [hg]; exact (z13q (ibh HB.out)) : w.heap.size ≤ gb341)); have n5_ := Aside0.mk ((by rw [hg]; exact (z13q (ibh HB.out)) : w.heap.size ≤ gb341)); have n6_ := Aside0.mk ((by rw [hg]; exact Nat.ne_of_lt (z14q (cy BK320.out)) : gb320 ≠ gb341)); have n7_ := Aside0.mk ((by rw [hg]; exact Nat.ne_of_gt (z14q (cy BK320.out)) : gb341 ≠ gb320)); have n8_ := Aside0.mk ((by rw [hg]; exact Nat.ne_of_lt (z14q (cy BK321.out)) : gb321 ≠ gb341)); have n9_ := Aside0.mk ((by rw [hg]; exact Nat.ne_of_gt (z14q (cy BK321.out)) : gb341 ≠ gb321)); clear BK320; clear BK321; clear HB; have BK320 := n0_; have BK321 := n1_; have HB := n2_; have BK341 := n3_; have GW341 := n4_; have GE341 := n5_; have NB320_341 := n6_; have NB341_320 := n7_; have NB321_341 := n8_; have NB341_321 := n9_; clear n0_ n1_ n2_ n3_ n4_ n5_ n6_ n7_ n8_ n9_; clear hb hbox hg; have hnb29 := NB341_320.out; have hnc29 := NB320_341.out; have hnb30 := NB341_321.out; have hnc30 := NB321_341.out; have hcz31_0 : w28.cell? ⟨gb341, 0, none⟩ = some (.int .i64 0) := (z0q BK341.out 0).trans rfl; have hcz31_1 : w28.cell? ⟨gb341, 1, none⟩ = some (.int .i64 0) := (z0q BK341.out 1).trans rfl; have hcz31_2 : w28.cell? ⟨gb341, 2, none⟩ = some (.bool false) := (z0q BK341.out 2).trans rfl; have hcz31_3 : w28.cell? ⟨gb341, 3, none⟩ = some (.bool false) := (z0q BK341.out 3).trans rfl; have hcz31_4 : w28.cell? ⟨gb341, 4, none⟩ = some (.int .i64 0) := (z0q BK341.out 4).trans rfl; have hcz31_5 : w28.cell? ⟨gb341, 5, none⟩ = some (.int .i64 0) := (z0q BK341.out 5).trans rfl; have hcz31_6 : w28.cell? ⟨gb341, 6, none⟩ = some (.bool false) := (z0q BK341.out 6).trans rfl; have hcz31_7 : w28.cell? ⟨gb341, 7, none⟩ = some (.bool false) := (z0q BK341.out 7).trans rfl; have hfz31_0 := z1q BK341.out 0; have hfz31_1 := z1q BK341.out 1; have hfz31_2 := z1q BK341.out 2; have hfz31_3 := z1q BK341.out 3; have hfz31_4 := z1q BK341.out 4; have hfz31_5 := z1q BK341.out 5; have hfz31_6 := z1q BK341.out 6; have hfz31_7 := z1q BK341.out 7; have hcz32_0 : w28.cell? ⟨gb320, 0, none⟩ = some (.int .i64 t324) := (z0q BK320.out 0).trans rfl; have hcz32_1 : w28.cell? ⟨gb320, 1, none⟩ = some (.int .i64 t325) := (z0q BK320.out 1).trans rfl; have hcz32_2 : w28.cell? ⟨gb320, 2, none⟩ = some (.bool t326) := (z0q BK320.out 2).trans rfl; have hcz32_3 : w28.cell? ⟨gb320, 3, none⟩ = some (.bool t327) := (z0q BK320.out 3).trans rfl; have hcz32_4 : w28.cell? ⟨gb320, 4, none⟩ = some (.int .i64 t328) := (z0q BK320.out 4).trans rfl; have hcz32_5 : w28.cell? ⟨gb320, 5, none⟩ = some (.int .i64 t329) := (z0q BK320.out 5).trans rfl; have hcz32_6 : w28.cell? ⟨gb320, 6, none⟩ = some (.bool t330) := (z0q BK320.out 6).trans rfl; have hcz32_7 : w28.cell? ⟨gb320, 7, none⟩ = some (.bool t331) := (z0q BK320.out 7).trans rfl; have hfz32_0 := z1q BK320.out 0; have hfz32_1 := z1q BK320.out 1; have hfz32_2 := z1q BK320.out 2; have hfz32_3 := z1q BK320.out 3; have hfz32_4 := z1q BK320.out 4; have hfz32_5 := z1q BK320.out 5; have hfz32_6 := z1q BK320.out 6; have hfz32_7 := z1q BK320.out 7))
     (try simp only [Act.put, setIfInBounds_toArray, set_cons_zero, set_cons_succ])
     go_cut [7] (fun v7 wc => ∃ (kq : Nat) (x7_20 : List (S26)), Aside0 (spec_Without.j1 kq x7_20 t324 t325 t326 t327 t328 t329 t330 t331 t332 t333 t334 t335 t336 t337 t338 t339 = some r) ∧ Aside0 (kq ≤ kj2) ∧ Aside0 (Kd.R k26 26 wc w.heap.size (fun k_ => k_ ≠ gb320 ∧ k_ ≠ gb321 ∧ k_ ≠ gb341) v7 x7_20) ∧ Aside0 (wc.heap[gb320]? = some (.cells #[.int .i64 t324, .int .i64 t325, .bool t326, .bool t327, .int .i64 t328, .int .i64 t329, .bool t330, .bool t331] 26 (0, 0))) ∧ Aside0 (wc.heap[gb321]? = some (.cells #[.int .i64 a1_0, .int .i64 a1_1, .bool a1_2, .bool a1_3, .int .i64 a1_4, .int .i64 a1_5, .bool a1_6, .bool a1_7] 26 (0, 0))) ∧ Aside0 (wc.heap[gb341]? = some (.cells #[.int .i64 t332, .int .i64 t333, .bool t334, .bool t335, .int .i64 t336, .int .i64 t337, .bool t338, .bool t339] 26 (0, 0))) ∧ Aside0 (Below w.heap.size w wc))
     case first =>
      have H := HC21.out
      clear HC21
      by_cases c33 : t324 < t332
      ·rw [if_pos c33] at H
       have c33b0 : decide (t324 < t332) = true := decide_eq_true c33
       clear c33
       (first | rw [c33b0] | (simp only [i64_w, i32_w]; rw [c33b0]) | skip)
       replace H := Option.bind_eq_some_iff.mp H
       obtain ⟨⟨t353, t354, t355, t356, t357, t358, t359, t360⟩, A340, H⟩ := H
       replace H : (if ([] : List (S26)).length < 2932031007402 then (spec_Without.j1 kj2 (([] : List (S26)) ++ [(⟨(⟨t353, t354, t355, t356⟩ : S24), (⟨t357, t358, t359, t360⟩ : S24)⟩ : S26)]) t324 t325 t326 t327 t328 t329 t330 t331 t332 t333 t334 t335 t336 t337 t338 t339) else (none)) = some r := H
       have A34 := Aside0.mk A340
       clear A340
       by_cases c35 : ([] : List (S26)).length < 2932031007402
       ·rw [if_pos c35] at H
        have LMc35 := Aside0.mk c35
        clear c35
        obtain ⟨y361, hy361⟩ : ∃ y_ : List (S26), y_ = (([] : List (S26)) ++ [(⟨(⟨t353, t354, t355, t356⟩ : S24), (⟨t357, t358, t359, t360⟩ : S24)⟩ : S26)]) := ⟨_, rfl⟩
        replace H : (spec_Without.j1 kj2 y361 t324 t325 t326 t327 t328 t329 t330 t331 t332 t333 t334 t335 t336 t337 t338 t339) = some r := by first | (rw [hy361]; with_reducible exact H) | (have H2_ := (Option.bind_some _ _).symm.trans H; rw [hy361]; with_reducible exact H2_) | (have H2_ := (Option.bind_some _ _).symm.trans H; with_reducible exact H2_) | with_reducible exact H | (rw [hy361]; exact H) | exact H
        have Ny361 := Aside0.mk hy361
        clear hy361
        have H' := Aside0.mk H
        clear H
        have hnb36 := NB320_321.out
        have hnc36 := NB321_320.out
        have hnb37 := NB320_341.out
        have hnc37 := NB341_320.out
        have hcz38_0 : w28.cell? ⟨gb320, 0, none⟩ = some (.int .i64 t324) := (z0q BK320.out 0).trans rfl
        have hcz38_1 : w28.cell? ⟨gb320, 1, none⟩ = some (.int .i64 t325) := (z0q BK320.out 1).trans rfl
        have hcz38_2 : w28.cell? ⟨gb320, 2, none⟩ = some (.bool t326) := (z0q BK320.out 2).trans rfl
        have hcz38_3 : w28.cell? ⟨gb320, 3, none⟩ = some (.bool t327) := (z0q BK320.out 3).trans rfl
        have hcz38_4 : w28.cell? ⟨gb320, 4, none⟩ = some (.int .i64 t328) := (z0q BK320.out 4).trans rfl
        have hcz38_5 : w28.cell? ⟨gb320, 5, none⟩ = some (.int .i64 t329) := (z0q BK320.out 5).trans rfl
        have hcz38_6 : w28.cell? ⟨gb320, 6, none⟩ = some (.bool t330) := (z0q BK320.out 6).trans rfl
        have hcz38_7 : w28.cell? ⟨gb320, 7, none⟩ = some (.bool t331) := (z0q BK320.out 7).trans rfl
        have hfz38_0 := z1q BK320.out 0
        have hfz38_1 := z1q BK320.out 1
        have hfz38_2 := z1q BK320.out 2
        have hfz38_3 := z1q BK320.out 3
        have hfz38_4 := z1q BK320.out 4
        have hfz38_5 := z1q BK320.out 5
        have hfz38_6 := z1q BK320.out 6
        have hfz38_7 := z1q BK320.out 7
        have hnb39 := NB341_321.out
        have hnc39 := NB321_341.out
        have hcz40_0 : w28.cell? ⟨gb341, 0, none⟩ = some (.int .i64 0) := (z0q BK341.out 0).trans rfl
        have hcz40_1 : w28.cell? ⟨gb341, 1, none⟩ = some (.int .i64 0) := (z0q BK341.out 1).trans rfl
        have hcz40_2 : w28.cell? ⟨gb341, 2, none⟩ = some (.bool false) := (z0q BK341.out 2).trans rfl
        have hcz40_3 : w28.cell? ⟨gb341, 3, none⟩ = some (.bool false) := (z0q BK341.out 3).trans rfl
        have hcz40_4 : w28.cell? ⟨gb341, 4, none⟩ = some (.int .i64 0) := (z0q BK341.out 4).trans rfl
        have hcz40_5 : w28.cell? ⟨gb341, 5, none⟩ = some (.int .i64 0) := (z0q BK341.out 5).trans rfl
        have hcz40_6 : w28.cell? ⟨gb341, 6, none⟩ = some (.bool false) := (z0q BK341.out 6).trans rfl
        have hcz40_7 : w28.cell? ⟨gb341, 7, none⟩ = some (.bool false) := (z0q BK341.out 7).trans rfl
        have hfz40_0 := z1q BK341.out 0
        have hfz40_1 := z1q BK341.out 1
        have hfz40_2 := z1q BK341.out 2
        have hfz40_3 := z1q BK341.out 3
        have hfz40_4 := z1q BK341.out 4
        have hfz40_5 := z1q BK341.out 5
        have hfz40_6 := z1q BK341.out 6
        have hfz40_7 := z1q BK341.out 7
        go_wp2_with (first | ((with_reducible refine z15q (f := 21) rfl ?_); refine z23q (some 61) rfl rfl Try.func21 (by kernel_rfl) rfl #[.int .i64 t324, .int .i64 t325, .int .i64 (wrap64 (t332 - 1)), .int .i64 t329] rfl (by (try simp only [map_toArray, map_cons, map_nil]); first | done | rfl | (simp only [length_drop, length_take]; rfl)) ?_; (with_reducible refine (spec_l3Area.calls t324 t325 (wrap64 (t332 - 1)) t329 t353 t354 t355 t356 t357 t358 t359 t360 _ A34.out).mono ?_); rintro e w41 ⟨rfl, hb⟩; refine ⟨_, rfl, ?_⟩; have n0_ := Aside0.mk (z2q (cy BK320.out) hb); have n1_ := Aside0.mk (z2q (cy BK321.out) hb); have n2_ := Aside0.mk (z2q (g := gb341) (o := .cells #[.int .i64 t332, .int .i64 t333, .bool t334, .bool t335, .int .i64 t336, .int .i64 t337, .bool t338, .bool t339] 26 (0, 0)) (by refine cz ?_; refine z6q (cs := #[.int .i64 t332, .int .i64 t333, .bool t334, .bool t335, .int .i64 t336, .int .i64 t337, .bool t338, .bool false]) ?_ 7 _ rfl; refine cz ?_; refine z6q (cs := #[.int .i64 t332, .int .i64 t333, .bool t334, .bool t335, .int .i64 t336, .int .i64 t337, .bool false, .bool false]) ?_ 6 _ rfl; refine cz ?_; refine z6q (cs := #[.int .i64 t332, .int .i64 t333, .bool t334, .bool t335, .int .i64 t336, .int .i64 0, .bool false, .bool false]) ?_ 5 _ rfl; refine cz ?_; refine z6q (cs := #[.int .i64 t332, .int .i64 t333, .bool t334, .bool t335, .int .i64 0, .int .i64 0, .bool false, .bool false]) ?_ 4 _ rfl; refine cz ?_; refine z6q (cs := #[.int .i64 t332, .int .i64 t333, .bool t334, .bool false, .int .i64 0, .int .i64 0, .bool false, .bool false]) ?_ 3 _ rfl; refine cz ?_; refine z6q (cs := #[.int .i64 t332, .int .i64 t333, .bool false, .bool false, .int .i64 0, .int .i64 0, .bool false, .bool false]) ?_ 2 _ rfl; refine cz ?_; refine z6q (cs := #[.int .i64 t332, .int .i64 0, .bool false, .bool false, .int .i64 0, .int .i64 0, .bool false, .bool false]) ?_ 1 _ rfl; refine cz ?_; refine z6q (cs := #[.int .i64 0, .int .i64 0, .bool false, .bool false, .int .i64 0, .int .i64 0, .bool false, .bool false]) ?_ 0 _ rfl; exact cy BK341.out) hb); have n3_ := Aside0.mk (z8q (ibh HB.out) hb); clear BK320; clear BK321; clear BK341; clear HB; have BK320 := n0_; have BK321 := n1_; have BK341 := n2_; have HB := n3_; clear n0_ n1_ n2_ n3_; (try clear hb); (try clear hb2); (try clear hk); (try clear hi)) | ((with_reducible refine gate_builtin (b := .append) (xs := #[.tmp 47, .tmp 62]) rfl ?_); at_builtin; refine Kd.R_append k26 (w0 := w) w.heap.size rfl (.tmp 47) (.tmp 62) 31 26 (.agg #[(.int .i64 0), (.int .i64 0), (.bool false), (.bool false), (.int .i64 0), (.int .i64 0), (.bool false), (.bool false)]) 48 rfl Try.underlying31 info26 rfl (by decide) (by omega) (.slice none 0 0) ([] : List (S26)) (⟨(⟨t353, t354, t355, t356⟩ : S24), (⟨t357, t358, t359, t360⟩ : S24)⟩ : S26) [.int .i64 t353, .int .i64 t354, .bool t355, .bool t356, .int .i64 t357, .int .i64 t358, .bool t359, .bool t360] (fun k_ => k_ ≠ gb320 ∧ k_ ≠ gb321 ∧ k_ ≠ gb341) (fun _ => False) rfl rfl ?aP (fun _ hk => hk.elim) ?aF ?aO ?aB ?aS ?aL ?_; (case aP => exact k26_mkM _ _ _ (⟨(⟨t353, t354, t355, t356⟩ : S24), (⟨t357, t358, t359, t360⟩ : S24)⟩ : S26)); (case aB => exact (ibh HB.out)); (case aF => exact (fun k_ hk => ⟨Kd.freshB (g := gb320) (o := .cells #[.int .i64 t324, .int .i64 t325, .bool t326, .bool t327, .int .i64 t328, .int .i64 t329, .bool t330, .bool t331] 26 (0, 0)) (cy BK320.out) k_ hk, Kd.freshB (g := gb321) (o := .cells #[.int .i64 a1_0, .int .i64 a1_1, .bool a1_2, .bool a1_3, .int .i64 a1_4, .int .i64 a1_5, .bool a1_6, .bool a1_7] 26 (0, 0)) (cy BK321.out) k_ hk, Kd.freshB (g := gb341) (o := .cells #[.int .i64 t332, .int .i64 t333, .bool t334, .bool t335, .int .i64 t336, .int .i64 t337, .bool t338, .bool t339] 26 (0, 0)) (cy BK341.out) k_ hk⟩)); (case aO => exact ((Kd.R_nil _ _ _ _ (fun k_ => k_ ≠ gb320 ∧ k_ ≠ gb321 ∧ k_ ≠ gb341)))); (case aS => exact (z13q (ibh HB.out))); (case aL => have := LMc35.out; omega); intro v362 w42 ho hb hg hat; rw [← Ny361.out] at ho; have n0_ := Aside0.mk (blk_grown (g := gb320) (o := .cells #[.int .i64 t324, .int .i64 t325, .bool t326, .bool t327, .int .i64 t328, .int .i64 t329, .bool t330, .bool t331] 26 (0, 0)) (cy BK320.out) hg (by simp [Value.ownBlock])); have n1_ := Aside0.mk (blk_grown (g := gb321) (o := .cells #[.int .i64 a1_0, .int .i64 a1_1, .bool a1_2, .bool a1_3, .int .i64 a1_4, .int .i64 a1_5, .bool a1_6, .bool a1_7] 26 (0, 0)) (cy BK321.out) hg (by simp [Value.ownBlock])); have n2_ := Aside0.mk (blk_grown (g := gb341) (o := .cells #[.int .i64 t332, .int .i64 t333, .bool t334, .bool t335, .int .i64 t336, .int .i64 t337, .bool t338, .bool t339] 26 (0, 0)) (cy BK341.out) hg (by simp [Value.ownBlock])); have n3_ := Aside0.mk (hb); have n4_ := Aside0.mk (ho); clear BK320; clear BK321; clear BK341; clear HB; have BK320 := n0_; have BK321 := n1_; have BK341 := n2_; have HB := n3_; have HO363 := n4_; clear n0_ n1_ n2_ n3_ n4_; clear ho hb hg hat))
        go_meet
        case rel => exact ⟨_, (y361), H', ⟨by have := HJ2.out; first | omega | exact Nat.le_refl _⟩, ⟨by (with_reducible repeat (first | apply Kd.R_alloc | apply Kd.R_drewN | apply Kd.R_drew)); exact HO363.out⟩, ⟨by (with_reducible repeat (first | refine z11q ?_ _ | refine z10q ?_ | refine z4q ?_ _)); exact BK320.out⟩, ⟨by (with_reducible repeat (first | refine z11q ?_ _ | refine z10q ?_ | refine z4q ?_ _)); exact BK321.out⟩, ⟨by (with_reducible repeat (first | refine z11q ?_ _ | refine z10q ?_ | refine z4q ?_ _)); exact BK341.out⟩, ⟨by repeat (first | (with_reducible first | exact HB.out | apply z7q | apply z5q | apply z12q | refine z3q ?_ GE320.out | refine z3q ?_ GE321.out | refine z3q ?_ GE341.out) | exact HB.out)⟩⟩
       ·rw [if_neg c35] at H
        exact absurd H (by simp)
      ·rw [if_neg c33] at H
       have c33b0 : decide (t324 < t332) = false := decide_eq_false c33
       clear c33
       (first | rw [c33b0] | (simp only [i64_w, i32_w]; rw [c33b0]) | skip)
       have H' := Aside0.mk H
       clear H
       go_wp2
       go_meet
       case rel => exact ⟨_, (([] : List (S26))), H', ⟨by have := HJ2.out; first | omega | exact Nat.le_refl _⟩, ⟨by first | exact Kd.R_nil _ _ _ _ _ | exact Kd.N_nil _ _ _ _ _ | exact Kd.V_nil _ _ _ _ _ | exact Kd.Q_nil _ _ _ _ _ | exact Kd.S_nil _ _ _ _ _⟩, ⟨by (with_reducible repeat (first | refine z11q ?_ _ | refine z10q ?_ | refine z4q ?_ _)); refine z18q ?_ NB320_341.out _; (with_reducible repeat (first | refine z11q ?_ _ | refine z10q ?_ | refine z4q ?_ _)); refine z18q ?_ NB320_341.out _; (with_reducible repeat (first | refine z11q ?_ _ | refine z10q ?_ | refine z4q ?_ _)); refine z18q ?_ NB320_341.out _; (with_reducible repeat (first | refine z11q ?_ _ | refine z10q ?_ | refine z4q ?_ _)); refine z18q ?_ NB320_341.out _; (with_reducible repeat (first | refine z11q ?_ _ | refine z10q ?_ | refine z4q ?_ _)); refine z18q ?_ NB320_341.out _; (with_reducible repeat (first | refine z11q ?_ _ | refine z10q ?_ | refine z4q ?_ _)); refine z18q ?_ NB320_341.out _; (with_reducible repeat (first | refine z11q ?_ _ | refine z10q ?_ | refine z4q ?_ _)); refine z18q ?_ NB320_341.out _; (with_reducible repeat (first | refine z11q ?_ _ | refine z10q ?_ | refine z4q ?_ _)); refine z18q ?_ NB320_341.out _; (with_reducible repeat (first | refine z11q ?_ _ | refine z10q ?_ | refine z4q ?_ _)); exact BK320.out⟩, ⟨by (with_reducible repeat (first | refine z11q ?_ _ | refine z10q ?_ | refine z4q ?_ _)); refine z18q ?_ NB321_341.out _; (with_reducible repeat (first | refine z11q ?_ _ | refine z10q ?_ | refine z4q ?_ _)); refine z18q ?_ NB321_341.out _; (with_reducible repeat (first | refine z11q ?_ _ | refine z10q ?_ | refine z4q ?_ _)); refine z18q ?_ NB321_341.out _; (with_reducible repeat (first | refine z11q ?_ _ | refine z10q ?_ | refine z4q ?_ _)); refine z18q ?_ NB321_341.out _; (with_reducible repeat (first | refine z11q ?_ _ | refine z10q ?_ | refine z4q ?_ _)); refine z18q ?_ NB321_341.out _; (with_reducible repeat (first | refine z11q ?_ _ | refine z10q ?_ | refine z4q ?_ _)); refine z18q ?_ NB321_341.out _; (with_reducible repeat (first | refine z11q ?_ _ | refine z10q ?_ | refine z4q ?_ _)); refine z18q ?_ NB321_341.out _; (with_reducible repeat (first | refine z11q ?_ _ | refine z10q ?_ | refine z4q ?_ _)); refine z18q ?_ NB321_341.out _; (with_reducible repeat (first | refine z11q ?_ _ | refine z10q ?_ | refine z4q ?_ _)); exact BK321.out⟩, ⟨by refine cz ?_; refine z6q (cs := #[.int .i64 t332, .int .i64 t333, .bool t334, .bool t335, .int .i64 t336, .int .i64 t337, .bool t338, .bool false]) ?_ 7 _ rfl; refine cz ?_; refine z6q (cs := #[.int .i64 t332, .int .i64 t333, .bool t334, .bool t335, .int .i64 t336, .int .i64 t337, .bool false, .bool false]) ?_ 6 _ rfl; refine cz ?_; refine z6q (cs := #[.int .i64 t332, .int .i64 t333, .bool t334, .bool t335, .int .i64 t336, .int .i64 0, .bool false, .bool false]) ?_ 5 _ rfl; refine cz ?_; refine z6q (cs := #[.int .i64 t332, .int .i64 t333, .bool t334, .bool t335, .int .i64 0, .int .i64 0, .bool false, .bool false]) ?_ 4 _ rfl; refine cz ?_; refine z6q (cs := #[.int .i64 t332, .int .i64 t333, .bool t334, .bool false, .int .i64 0, .int .i64 0, .bool false, .bool false]) ?_ 3 _ rfl; refine cz ?_; refine z6q (cs := #[.int .i64 t332, .int .i64 t333, .bool false, .bool false, .int .i64 0, .int .i64 0, .bool false, .bool false]) ?_ 2 _ rfl; refine cz ?_; refine z6q (cs := #[.int .i64 t332, .int .i64 0, .bool false, .bool false, .int .i64 0, .int .i64 0, .bool false, .bool false]) ?_ 1 _ rfl; refine cz ?_; refine z6q (cs := #[.int .i64 0, .int .i64 0, .bool false, .bool false, .int .i64 0, .int .i64 0, .bool false, .bool false]) ?_ 0 _ rfl; (with_reducible repeat (first | refine z11q ?_ _ | refine z10q ?_ | refine z4q ?_ _)); exact BK341.out⟩, ⟨by repeat (first | (with_reducible first | exact HB.out | apply z7q | apply z5q | apply z12q | refine z3q ?_ GE320.out | refine z3q ?_ GE321.out | refine z3q ?_ GE341.out) | exact HB.out)⟩⟩
     case rest =>
      clear HC21
      try clear c1
      try clear c2
      try clear p2
      try clear c3
      try clear p6
      try clear c7
      try clear c8
      try clear c9
      try clear c12
      try clear c14
      try clear c17
      try clear c20
      try clear c21
      try clear c22
      try clear c29
      try clear c30
      try clear c33
      try clear c33b0
      try clear c35
      try clear c36
      try clear c37
      try clear c39
      try clear hcz10_0
      try clear hcz10_1
      try clear hcz10_2
      try clear hcz10_3
      try clear hcz10_4
      try clear hcz10_5
      try clear hcz10_6
      try clear hcz10_7
      try clear hcz12_0
      try clear hcz12_1
      try clear hcz12_2
      try clear hcz12_3
      try clear hcz12_4
      try clear hcz12_5
      try clear hcz12_6
      try clear hcz12_7
      try clear hcz15_0
      try clear hcz15_1
      try clear hcz15_2
      try clear hcz15_3
      try clear hcz15_4
      try clear hcz15_5
      try clear hcz15_6
      try clear hcz15_7
      try clear hcz23_0
      try clear hcz23_1
      try clear hcz23_2
      try clear hcz23_3
      try clear hcz23_4
      try clear hcz23_5
      try clear hcz23_6
      try clear hcz23_7
      try clear hcz25_0
      try clear hcz25_1
      try clear hcz25_2
      try clear hcz25_3
      try clear hcz25_4
      try clear hcz25_5
      try clear hcz25_6
      try clear hcz25_7
      try clear hcz26_0
      try clear hcz26_1
      try clear hcz26_2
      try clear hcz26_3
      try clear hcz26_4
      try clear hcz26_5
      try clear hcz26_6
      try clear hcz26_7
      try clear hcz31_0
      try clear hcz31_1
      try clear hcz31_2
      try clear hcz31_3
      try clear hcz31_4
      try clear hcz31_5
      try clear hcz31_6
      try clear hcz31_7
      try clear hcz32_0
      try clear hcz32_1
      try clear hcz32_2
      try clear hcz32_3
      try clear hcz32_4
      try clear hcz32_5
      try clear hcz32_6
      try clear hcz32_7
      try clear hcz38_0
      try clear hcz38_1
      try clear hcz38_2
      try clear hcz38_3
      try clear hcz38_4
      try clear hcz38_5
      try clear hcz38_6
      try clear hcz38_7
      try clear hcz40_0
      try clear hcz40_1
      try clear hcz40_2
      try clear hcz40_3
      try clear hcz40_4
      try clear hcz40_5
      try clear hcz40_6
      try clear hcz40_7
      try clear hfz10_0
      try clear hfz10_1
      try clear hfz10_2
      try clear hfz10_3
      try clear hfz10_4
      try clear hfz10_5
      try clear hfz10_6
      try clear hfz10_7
      try clear hfz12_0
      try clear hfz12_1
      try clear hfz12_2
      try clear hfz12_3
      try clear hfz12_4
      try clear hfz12_5
      try clear hfz12_6
      try clear hfz12_7
      try clear hfz15_0
      try clear hfz15_1
      try clear hfz15_2
      try clear hfz15_3
      try clear hfz15_4
      try clear hfz15_5
      try clear hfz15_6
      try clear hfz15_7
      try clear hfz23_0
      try clear hfz23_1
      try clear hfz23_2
      try clear hfz23_3
      try clear hfz23_4
      try clear hfz23_5
      try clear hfz23_6
      try clear hfz23_7
      try clear hfz25_0
      try clear hfz25_1
      try clear hfz25_2
      try clear hfz25_3
      try clear hfz25_4
      try clear hfz25_5
      try clear hfz25_6
      try clear hfz25_7
      try clear hfz26_0
      try clear hfz26_1
      try clear hfz26_2
      try clear hfz26_3
      try clear hfz26_4
      try clear hfz26_5
      try clear hfz26_6
      try clear hfz26_7
      try clear hfz31_0
      try clear hfz31_1
      try clear hfz31_2
      try clear hfz31_3
      try clear hfz31_4
      try clear hfz31_5
      try clear hfz31_6
      try clear hfz31_7
      try clear hfz32_0
      try clear hfz32_1
      try clear hfz32_2
      try clear hfz32_3
      try clear hfz32_4
      try clear hfz32_5
      try clear hfz32_6
      try clear hfz32_7
      try clear hfz38_0
      try clear hfz38_1
      try clear hfz38_2
      try clear hfz38_3
      try clear hfz38_4
      try clear hfz38_5
      try clear hfz38_6
      try clear hfz38_7
      try clear hfz40_0
      try clear hfz40_1
      try clear hfz40_2
      try clear hfz40_3
      try clear hfz40_4
      try clear hfz40_5
      try clear hfz40_6
      try clear hfz40_7
      try clear p2
      obtain ⟨kq, x7_20, HA, HJ20, HO_7, BK320, BK321, BK341, HB⟩ := hcut
      cases kq with
      | zero => exact absurd HA.out (by simp [spec_Without.j1])
      | succ kj20 =>
       have H := HA.out
       clear HA
       simp only [spec_Without.j1] at H
       have HC43 := Aside0.mk H
       clear H
       have hnb44 := NB320_321.out
       have hnc44 := NB321_320.out
       have hnb45 := NB320_341.out
       have hnc45 := NB341_320.out
       have hcz46_0 : wc.cell? ⟨gb320, 0, none⟩ = some (.int .i64 t324) := (z0q BK320.out 0).trans rfl
       have hcz46_1 : wc.cell? ⟨gb320, 1, none⟩ = some (.int .i64 t325) := (z0q BK320.out 1).trans rfl
       have hcz46_2 : wc.cell? ⟨gb320, 2, none⟩ = some (.bool t326) := (z0q BK320.out 2).trans rfl
       have hcz46_3 : wc.cell? ⟨gb320, 3, none⟩ = some (.bool t327) := (z0q BK320.out 3).trans rfl
       have hcz46_4 : wc.cell? ⟨gb320, 4, none⟩ = some (.int .i64 t328) := (z0q BK320.out 4).trans rfl
       have hcz46_5 : wc.cell? ⟨gb320, 5, none⟩ = some (.int .i64 t329) := (z0q BK320.out 5).trans rfl
       have hcz46_6 : wc.cell? ⟨gb320, 6, none⟩ = some (.bool t330) := (z0q BK320.out 6).trans rfl
       have hcz46_7 : wc.cell? ⟨gb320, 7, none⟩ = some (.bool t331) := (z0q BK320.out 7).trans rfl
       have hfz46_0 := z1q BK320.out 0
       have hfz46_1 := z1q BK320.out 1
       have hfz46_2 := z1q BK320.out 2
       have hfz46_3 := z1q BK320.out 3
       have hfz46_4 := z1q BK320.out 4
       have hfz46_5 := z1q BK320.out 5
       have hfz46_6 := z1q BK320.out 6
       have hfz46_7 := z1q BK320.out 7
       have hnb47 := NB341_321.out
       have hnc47 := NB321_341.out
       have hcz48_0 : wc.cell? ⟨gb341, 0, none⟩ = some (.int .i64 t332) := (z0q BK341.out 0).trans rfl
       have hcz48_1 : wc.cell? ⟨gb341, 1, none⟩ = some (.int .i64 t333) := (z0q BK341.out 1).trans rfl
       have hcz48_2 : wc.cell? ⟨gb341, 2, none⟩ = some (.bool t334) := (z0q BK341.out 2).trans rfl
       have hcz48_3 : wc.cell? ⟨gb341, 3, none⟩ = some (.bool t335) := (z0q BK341.out 3).trans rfl
       have hcz48_4 : wc.cell? ⟨gb341, 4, none⟩ = some (.int .i64 t336) := (z0q BK341.out 4).trans rfl
       have hcz48_5 : wc.cell? ⟨gb341, 5, none⟩ = some (.int .i64 t337) := (z0q BK341.out 5).trans rfl
       have hcz48_6 : wc.cell? ⟨gb341, 6, none⟩ = some (.bool t338) := (z0q BK341.out 6).trans rfl
       have hcz48_7 : wc.cell? ⟨gb341, 7, none⟩ = some (.bool t339) := (z0q BK341.out 7).trans rfl
       have hfz48_0 := z1q BK341.out 0
       have hfz48_1 := z1q BK341.out 1
       have hfz48_2 := z1q BK341.out 2
       have hfz48_3 := z1q BK341.out 3
       have hfz48_4 := z1q BK341.out 4
       have hfz48_5 := z1q BK341.out 5
       have hfz48_6 := z1q BK341.out 6
       have hfz48_7 := z1q BK341.out 7
       go_upto_if 70 with (fail)
       go_cut [7] (fun v7 wc => ∃ (kq : Nat) (x7_42 : List (S26)), Aside0 (spec_Without.j2 kq x7_42 t324 t325 t326 t327 t328 t329 t330 t331 t332 t333 t334 t335 t336 t337 t338 t339 = some r) ∧ Aside0 (kq ≤ kj20) ∧ Aside0 (Kd.R k26 26 wc w.heap.size (fun k_ => k_ ≠ gb320 ∧ k_ ≠ gb321 ∧ k_ ≠ gb341) v7 x7_42) ∧ Aside0 (wc.heap[gb320]? = some (.cells #[.int .i64 t324, .int .i64 t325, .bool t326, .bool t327, .int .i64 t328, .int .i64 t329, .bool t330, .bool t331] 26 (0, 0))) ∧ Aside0 (wc.heap[gb321]? = some (.cells #[.int .i64 a1_0, .int .i64 a1_1, .bool a1_2, .bool a1_3, .int .i64 a1_4, .int .i64 a1_5, .bool a1_6, .bool a1_7] 26 (0, 0))) ∧ Aside0 (wc.heap[gb341]? = some (.cells #[.int .i64 t332, .int .i64 t333, .bool t334, .bool t335, .int .i64 t336, .int .i64 t337, .bool t338, .bool t339] 26 (0, 0))) ∧ Aside0 (Below w.heap.size w wc))
       case first =>
        have H := HC43.out
        clear HC43
        by_cases c49 : t328 > t336
        ·rw [if_pos c49] at H
         have c49b0 : decide (t336 < t328) = true := decide_eq_true c49
         clear c49
         (first | rw [c49b0] | (simp only [i64_w, i32_w]; rw [c49b0]) | skip)
         replace H := Option.bind_eq_some_iff.mp H
         obtain ⟨⟨t364, t365, t366, t367, t368, t369, t370, t371⟩, A500, H⟩ := H
         replace H : (if x7_20.length < 2932031007402 then (spec_Without.j2 kj20 (x7_20 ++ [(⟨(⟨t364, t365, t366, t367⟩ : S24), (⟨t368, t369, t370, t371⟩ : S24)⟩ : S26)]) t324 t325 t326 t327 t328 t329 t330 t331 t332 t333 t334 t335 t336 t337 t338 t339) else (none)) = some r := H
         have A50 := Aside0.mk A500
         clear A500
         by_cases c51 : x7_20.length < 2932031007402
         ·rw [if_pos c51] at H
          have LMc51 := Aside0.mk c51
          clear c51
          obtain ⟨y372, hy372⟩ : ∃ y_ : List (S26), y_ = (x7_20 ++ [(⟨(⟨t364, t365, t366, t367⟩ : S24), (⟨t368, t369, t370, t371⟩ : S24)⟩ : S26)]) := ⟨_, rfl⟩
          replace H : (spec_Without.j2 kj20 y372 t324 t325 t326 t327 t328 t329 t330 t331 t332 t333 t334 t335 t336 t337 t338 t339) = some r := by first | (rw [hy372]; with_reducible exact H) | (have H2_ := (Option.bind_some _ _).symm.trans H; rw [hy372]; with_reducible exact H2_) | (have H2_ := (Option.bind_some _ _).symm.trans H; with_reducible exact H2_) | with_reducible exact H | (rw [hy372]; exact H) | exact H
          have Ny372 := Aside0.mk hy372
          clear hy372
          have H' := Aside0.mk H
          clear H
          have hnb52 := NB341_320.out
          have hnc52 := NB320_341.out
          have hnb53 := NB341_321.out
          have hnc53 := NB321_341.out
          have hcz54_0 : wc.cell? ⟨gb341, 0, none⟩ = some (.int .i64 t332) := (z0q BK341.out 0).trans rfl
          have hcz54_1 : wc.cell? ⟨gb341, 1, none⟩ = some (.int .i64 t333) := (z0q BK341.out 1).trans rfl
          have hcz54_2 : wc.cell? ⟨gb341, 2, none⟩ = some (.bool t334) := (z0q BK341.out 2).trans rfl
          have hcz54_3 : wc.cell? ⟨gb341, 3, none⟩ = some (.bool t335) := (z0q BK341.out 3).trans rfl
          have hcz54_4 : wc.cell? ⟨gb341, 4, none⟩ = some (.int .i64 t336) := (z0q BK341.out 4).trans rfl
          have hcz54_5 : wc.cell? ⟨gb341, 5, none⟩ = some (.int .i64 t337) := (z0q BK341.out 5).trans rfl
          have hcz54_6 : wc.cell? ⟨gb341, 6, none⟩ = some (.bool t338) := (z0q BK341.out 6).trans rfl
          have hcz54_7 : wc.cell? ⟨gb341, 7, none⟩ = some (.bool t339) := (z0q BK341.out 7).trans rfl
          have hfz54_0 := z1q BK341.out 0
          have hfz54_1 := z1q BK341.out 1
          have hfz54_2 := z1q BK341.out 2
          have hfz54_3 := z1q BK341.out 3
          have hfz54_4 := z1q BK341.out 4
          have hfz54_5 := z1q BK341.out 5
          have hfz54_6 := z1q BK341.out 6
          have hfz54_7 := z1q BK341.out 7
          have hnb55 := NB320_321.out
          have hnc55 := NB321_320.out
          have hcz56_0 : wc.cell? ⟨gb320, 0, none⟩ = some (.int .i64 t324) := (z0q BK320.out 0).trans rfl
          have hcz56_1 : wc.cell? ⟨gb320, 1, none⟩ = some (.int .i64 t325) := (z0q BK320.out 1).trans rfl
          have hcz56_2 : wc.cell? ⟨gb320, 2, none⟩ = some (.bool t326) := (z0q BK320.out 2).trans rfl
          have hcz56_3 : wc.cell? ⟨gb320, 3, none⟩ = some (.bool t327) := (z0q BK320.out 3).trans rfl
          have hcz56_4 : wc.cell? ⟨gb320, 4, none⟩ = some (.int .i64 t328) := (z0q BK320.out 4).trans rfl
          have hcz56_5 : wc.cell? ⟨gb320, 5, none⟩ = some (.int .i64 t329) := (z0q BK320.out 5).trans rfl
          have hcz56_6 : wc.cell? ⟨gb320, 6, none⟩ = some (.bool t330) := (z0q BK320.out 6).trans rfl
          have hcz56_7 : wc.cell? ⟨gb320, 7, none⟩ = some (.bool t331) := (z0q BK320.out 7).trans rfl
          have hfz56_0 := z1q BK320.out 0
          have hfz56_1 := z1q BK320.out 1
          have hfz56_2 := z1q BK320.out 2
          have hfz56_3 := z1q BK320.out 3
          have hfz56_4 := z1q BK320.out 4
          have hfz56_5 := z1q BK320.out 5
          have hfz56_6 := z1q BK320.out 6
          have hfz56_7 := z1q BK320.out 7
          go_wp2_with (first | ((with_reducible refine z15q (f := 21) rfl ?_); refine z23q (some 85) rfl rfl Try.func21 (by kernel_rfl) rfl #[.int .i64 (wrap64 (t336 + 1)), .int .i64 t325, .int .i64 t328, .int .i64 t329] rfl (by (try simp only [map_toArray, map_cons, map_nil]); first | done | rfl | (simp only [length_drop, length_take]; rfl)) ?_; (with_reducible refine (spec_l3Area.calls (wrap64 (t336 + 1)) t325 t328 t329 t364 t365 t366 t367 t368 t369 t370 t371 _ A50.out).mono ?_); rintro e w57 ⟨rfl, hb⟩; refine ⟨_, rfl, ?_⟩; have n0_ := Aside0.mk (Kd.R_below (ro HO_7.out) hb); have n1_ := Aside0.mk (z2q (cy BK320.out) hb); have n2_ := Aside0.mk (z2q (cy BK321.out) hb); have n3_ := Aside0.mk (z2q (cy BK341.out) hb); have n4_ := Aside0.mk (z8q (ibh HB.out) hb); clear HO_7; clear BK320; clear BK321; clear BK341; clear HB; have HO_7 := n0_; have BK320 := n1_; have BK321 := n2_; have BK341 := n3_; have HB := n4_; clear n0_ n1_ n2_ n3_ n4_; (try clear hb); (try clear hb2); (try clear hk); (try clear hi)) | ((with_reducible refine gate_builtin (b := .append) (xs := #[.tmp 71, .tmp 86]) rfl ?_); at_builtin; refine Kd.R_append k26 (w0 := w) w.heap.size rfl (.tmp 71) (.tmp 86) 31 26 (.agg #[(.int .i64 0), (.int .i64 0), (.bool false), (.bool false), (.int .i64 0), (.int .i64 0), (.bool false), (.bool false)]) 48 rfl Try.underlying31 info26 rfl (by decide) (by omega) u7 x7_20 (⟨(⟨t364, t365, t366, t367⟩ : S24), (⟨t368, t369, t370, t371⟩ : S24)⟩ : S26) [.int .i64 t364, .int .i64 t365, .bool t366, .bool t367, .int .i64 t368, .int .i64 t369, .bool t370, .bool t371] (fun k_ => k_ ≠ gb320 ∧ k_ ≠ gb321 ∧ k_ ≠ gb341) (fun _ => False) rfl rfl ?aP (fun _ hk => hk.elim) ?aF ?aO ?aB ?aS ?aL ?_; (case aP => exact k26_mkM _ _ _ (⟨(⟨t364, t365, t366, t367⟩ : S24), (⟨t368, t369, t370, t371⟩ : S24)⟩ : S26)); (case aB => exact (ibh HB.out)); (case aF => exact (fun k_ hk => ⟨Kd.freshB (g := gb320) (o := .cells #[.int .i64 t324, .int .i64 t325, .bool t326, .bool t327, .int .i64 t328, .int .i64 t329, .bool t330, .bool t331] 26 (0, 0)) (cy BK320.out) k_ hk, Kd.freshB (g := gb321) (o := .cells #[.int .i64 a1_0, .int .i64 a1_1, .bool a1_2, .bool a1_3, .int .i64 a1_4, .int .i64 a1_5, .bool a1_6, .bool a1_7] 26 (0, 0)) (cy BK321.out) k_ hk, Kd.freshB (g := gb341) (o := .cells #[.int .i64 t332, .int .i64 t333, .bool t334, .bool t335, .int .i64 t336, .int .i64 t337, .bool t338, .bool t339] 26 (0, 0)) (cy BK341.out) k_ hk⟩)); (case aO => exact (ro HO_7.out)); (case aS => exact (z13q (ibh HB.out))); (case aL => have := LMc51.out; omega); intro v373 w58 ho hb hg hat; rw [← Ny372.out] at ho; have n0_ := Aside0.mk (blk_grown (g := gb320) (o := .cells #[.int .i64 t324, .int .i64 t325, .bool t326, .bool t327, .int .i64 t328, .int .i64 t329, .bool t330, .bool t331] 26 (0, 0)) (cy BK320.out) hg (Kd.R_away HO_7.out (fun _ hk => hk.1))); have n1_ := Aside0.mk (blk_grown (g := gb321) (o := .cells #[.int .i64 a1_0, .int .i64 a1_1, .bool a1_2, .bool a1_3, .int .i64 a1_4, .int .i64 a1_5, .bool a1_6, .bool a1_7] 26 (0, 0)) (cy BK321.out) hg (Kd.R_away HO_7.out (fun _ hk => hk.2.1))); have n2_ := Aside0.mk (blk_grown (g := gb341) (o := .cells #[.int .i64 t332, .int .i64 t333, .bool t334, .bool t335, .int .i64 t336, .int .i64 t337, .bool t338, .bool t339] 26 (0, 0)) (cy BK341.out) hg (Kd.R_away HO_7.out (fun _ hk => hk.2.2))); have n3_ := Aside0.mk (hb); have n4_ := Aside0.mk (ho); clear BK320; clear BK321; clear BK341; clear HB; clear HO_7; have BK320 := n0_; have BK321 := n1_; have BK341 := n2_; have HB := n3_; have HO374 := n4_; clear n0_ n1_ n2_ n3_ n4_; clear ho hb hg hat))
          go_meet
          case rel => exact ⟨_, (y372), H', ⟨by have := HJ2.out; have := HJ20.out; first | omega | exact Nat.le_refl _⟩, ⟨by (with_reducible repeat (first | apply Kd.R_alloc | apply Kd.R_drewN | apply Kd.R_drew)); exact HO374.out⟩, ⟨by (with_reducible repeat (first | refine z11q ?_ _ | refine z10q ?_ | refine z4q ?_ _)); exact BK320.out⟩, ⟨by (with_reducible repeat (first | refine z11q ?_ _ | refine z10q ?_ | refine z4q ?_ _)); exact BK321.out⟩, ⟨by (with_reducible repeat (first | refine z11q ?_ _ | refine z10q ?_ | refine z4q ?_ _)); exact BK341.out⟩, ⟨by repeat (first | (with_reducible first | exact HB.out | apply z7q | apply z5q | apply z12q | refine z3q ?_ GE320.out | refine z3q ?_ GE321.out | refine z3q ?_ GE341.out) | exact HB.out)⟩⟩
         ·rw [if_neg c51] at H
          exact absurd H (by simp)
        ·rw [if_neg c49] at H
         have c49b0 : decide (t336 < t328) = false := decide_eq_false c49
         clear c49
         (first | rw [c49b0] | (simp only [i64_w, i32_w]; rw [c49b0]) | skip)
         have H' := Aside0.mk H
         clear H
         go_wp2
         go_meet
         case rel => exact ⟨_, (x7_20), H', ⟨by have := HJ2.out; have := HJ20.out; first | omega | exact Nat.le_refl _⟩, ⟨by (with_reducible repeat (first | apply Kd.R_alloc | apply Kd.R_drewN | apply Kd.R_drew)); exact HO_7.out⟩, ⟨by (with_reducible repeat (first | refine z11q ?_ _ | refine z10q ?_ | refine z4q ?_ _)); exact BK320.out⟩, ⟨by (with_reducible repeat (first | refine z11q ?_ _ | refine z10q ?_ | refine z4q ?_ _)); exact BK321.out⟩, ⟨by (with_reducible repeat (first | refine z11q ?_ _ | refine z10q ?_ | refine z4q ?_ _)); exact BK341.out⟩, ⟨by repeat (first | (with_reducible first | exact HB.out | apply z7q | apply z5q | apply z12q | refine z3q ?_ GE320.out | refine z3q ?_ GE321.out | refine z3q ?_ GE341.out) | exact HB.out)⟩⟩
       case rest =>
        clear HC43
        try clear c1
        try clear c2
        try clear p2
        try clear c3
        try clear c4
        try clear c5
        try clear p6
        try clear c7
        try clear c8
        try clear c9
        try clear c12
        try clear c14
        try clear c17
        try clear c20
        try clear c21
        try clear c22
        try clear c29
        try clear c30
        try clear c33
        try clear c33b0
        try clear c35
        try clear c36
        try clear c37
        try clear c39
        try clear c44
        try clear c45
        try clear c47
        try clear c49
        try clear c49b0
        try clear c51
        try clear c52
        try clear c53
        try clear c55
        try clear hcz10_0
        try clear hcz10_1
        try clear hcz10_2
        try clear hcz10_3
        try clear hcz10_4
        try clear hcz10_5
        try clear hcz10_6
        try clear hcz10_7
        try clear hcz12_0
        try clear hcz12_1
        try clear hcz12_2
        try clear hcz12_3
        try clear hcz12_4
        try clear hcz12_5
        try clear hcz12_6
        try clear hcz12_7
        try clear hcz15_0
        try clear hcz15_1
        try clear hcz15_2
        try clear hcz15_3
        try clear hcz15_4
        try clear hcz15_5
        try clear hcz15_6
        try clear hcz15_7
        try clear hcz23_0
        try clear hcz23_1
        try clear hcz23_2
        try clear hcz23_3
        try clear hcz23_4
        try clear hcz23_5
        try clear hcz23_6
        try clear hcz23_7
        try clear hcz25_0
        try clear hcz25_1
        try clear hcz25_2
        try clear hcz25_3
        try clear hcz25_4
        try clear hcz25_5
        try clear hcz25_6
        try clear hcz25_7
        try clear hcz26_0
        try clear hcz26_1
        try clear hcz26_2
        try clear hcz26_3
        try clear hcz26_4
        try clear hcz26_5
        try clear hcz26_6
        try clear hcz26_7
        try clear hcz31_0
        try clear hcz31_1
        try clear hcz31_2
        try clear hcz31_3
        try clear hcz31_4
        try clear hcz31_5
        try clear hcz31_6
        try clear hcz31_7
        try clear hcz32_0
        try clear hcz32_1
        try clear hcz32_2
        try clear hcz32_3
        try clear hcz32_4
        try clear hcz32_5
        try clear hcz32_6
        try clear hcz32_7
        try clear hcz38_0
        try clear hcz38_1
        try clear hcz38_2
        try clear hcz38_3
        try clear hcz38_4
        try clear hcz38_5
        try clear hcz38_6
        try clear hcz38_7
        try clear hcz40_0
        try clear hcz40_1
        try clear hcz40_2
        try clear hcz40_3
        try clear hcz40_4
        try clear hcz40_5
        try clear hcz40_6
        try clear hcz40_7
        try clear hcz46_0
        try clear hcz46_1
        try clear hcz46_2
        try clear hcz46_3
        try clear hcz46_4
        try clear hcz46_5
        try clear hcz46_6
        try clear hcz46_7
        try clear hcz48_0
        try clear hcz48_1
        try clear hcz48_2
        try clear hcz48_3
        try clear hcz48_4
        try clear hcz48_5
        try clear hcz48_6
        try clear hcz48_7
        try clear hcz54_0
        try clear hcz54_1
        try clear hcz54_2
        try clear hcz54_3
        try clear hcz54_4
        try clear hcz54_5
        try clear hcz54_6
        try clear hcz54_7
        try clear hcz56_0
        try clear hcz56_1
        try clear hcz56_2
        try clear hcz56_3
        try clear hcz56_4
        try clear hcz56_5
        try clear hcz56_6
        try clear hcz56_7
        try clear hfz10_0
        try clear hfz10_1
        try clear hfz10_2
        try clear hfz10_3
        try clear hfz10_4
        try clear hfz10_5
        try clear hfz10_6
        try clear hfz10_7
        try clear hfz12_0
        try clear hfz12_1
        try clear hfz12_2
        try clear hfz12_3
        try clear hfz12_4
        try clear hfz12_5
        try clear hfz12_6
        try clear hfz12_7
        try clear hfz15_0
        try clear hfz15_1
        try clear hfz15_2
        try clear hfz15_3
        try clear hfz15_4
        try clear hfz15_5
        try clear hfz15_6
        try clear hfz15_7
        try clear hfz23_0
        try clear hfz23_1
        try clear hfz23_2
        try clear hfz23_3
        try clear hfz23_4
        try clear hfz23_5
        try clear hfz23_6
        try clear hfz23_7
        try clear hfz25_0
        try clear hfz25_1
        try clear hfz25_2
        try clear hfz25_3
        try clear hfz25_4
        try clear hfz25_5
        try clear hfz25_6
        try clear hfz25_7
        try clear hfz26_0
        try clear hfz26_1
        try clear hfz26_2
        try clear hfz26_3
        try clear hfz26_4
        try clear hfz26_5
        try clear hfz26_6
        try clear hfz26_7
        try clear hfz31_0
        try clear hfz31_1
        try clear hfz31_2
        try clear hfz31_3
        try clear hfz31_4
        try clear hfz31_5
        try clear hfz31_6
        try clear hfz31_7
        try clear hfz32_0
        try clear hfz32_1
        try clear hfz32_2
        try clear hfz32_3
        try clear hfz32_4
        try clear hfz32_5
        try clear hfz32_6
        try clear hfz32_7
        try clear hfz38_0
        try clear hfz38_1
        try clear hfz38_2
        try clear hfz38_3
        try clear hfz38_4
        try clear hfz38_5
        try clear hfz38_6
        try clear hfz38_7
        try clear hfz40_0
        try clear hfz40_1
        try clear hfz40_2
        try clear hfz40_3
        try clear hfz40_4
        try clear hfz40_5
        try clear hfz40_6
        try clear hfz40_7
        try clear hfz46_0
        try clear hfz46_1
        try clear hfz46_2
        try clear hfz46_3
        try clear hfz46_4
        try clear hfz46_5
        try clear hfz46_6
        try clear hfz46_7
        try clear hfz48_0
        try clear hfz48_1
        try clear hfz48_2
        try clear hfz48_3
        try clear hfz48_4
        try clear hfz48_5
        try clear hfz48_6
        try clear hfz48_7
        try clear hfz54_0
        try clear hfz54_1
        try clear hfz54_2
        try clear hfz54_3
        try clear hfz54_4
        try clear hfz54_5
        try clear hfz54_6
        try clear hfz54_7
        try clear hfz56_0
        try clear hfz56_1
        try clear hfz56_2
        try clear hfz56_3
        try clear hfz56_4
        try clear hfz56_5
        try clear hfz56_6
        try clear hfz56_7
        try clear p2
        try clear p6
        obtain ⟨kq, x7_42, HA, HJ42, HO_7, BK320, BK321, BK341, HB⟩ := hcut
        cases kq with
        | zero => exact absurd HA.out (by simp [spec_Without.j2])
        | succ kj42 =>
         have H := HA.out
         clear HA
         simp only [spec_Without.j2] at H
         by_cases c59 : t325 < t333
         ·rw [if_pos c59] at H
          have c59b0 : decide (t325 < t333) = true := decide_eq_true c59
          clear c59
          replace H := Option.bind_eq_some_iff.mp H
          obtain ⟨⟨t375, t376, t377, t378, t379, t380, t381, t382⟩, A600, H⟩ := H
          replace H : (if x7_42.length < 2932031007402 then ((some (x7_42 ++ [(⟨(⟨t375, t376, t377, t378⟩ : S24), (⟨t379, t380, t381, t382⟩ : S24)⟩ : S26)] : List (S26))).bind fun y383 => (if t329 > t337 then ((spec_l3Area.f t332 (wrap64 (t337 + 1)) t336 t329).bind fun bt386 => (if y383.length < 2932031007402 then (some (y383 ++ [(⟨(⟨bt386.1, bt386.2.1, bt386.2.2.1, bt386.2.2.2.1⟩ : S24), (⟨bt386.2.2.2.2.1, bt386.2.2.2.2.2.1, bt386.2.2.2.2.2.2.1, bt386.2.2.2.2.2.2.2⟩ : S24)⟩ : S26)])) else (none))) else (some y383))) else (none)) = some r := H
          have A60 := Aside0.mk A600
          clear A600
          by_cases c61 : x7_42.length < 2932031007402
          ·rw [if_pos c61] at H
           have LMc61 := Aside0.mk c61
           clear c61
           obtain ⟨y383, hy383⟩ : ∃ y_ : List (S26), y_ = (x7_42 ++ [(⟨(⟨t375, t376, t377, t378⟩ : S24), (⟨t379, t380, t381, t382⟩ : S24)⟩ : S26)]) := ⟨_, rfl⟩
           replace H : (if t329 > t337 then ((spec_l3Area.f t332 (wrap64 (t337 + 1)) t336 t329).bind fun bt386 => (if y383.length < 2932031007402 then (some (y383 ++ [(⟨(⟨bt386.1, bt386.2.1, bt386.2.2.1, bt386.2.2.2.1⟩ : S24), (⟨bt386.2.2.2.2.1, bt386.2.2.2.2.2.1, bt386.2.2.2.2.2.2.1, bt386.2.2.2.2.2.2.2⟩ : S24)⟩ : S26)])) else (none))) else (some y383)) = some r := by first | (rw [hy383]; with_reducible exact H) | (have H2_ := (Option.bind_some _ _).symm.trans H; rw [hy383]; with_reducible exact H2_) | (have H2_ := (Option.bind_some _ _).symm.trans H; with_reducible exact H2_) | with_reducible exact H | (rw [hy383]; exact H) | exact H
           have Ny383 := Aside0.mk hy383
           clear hy383
           by_cases c62 : t329 > t337
           ·rw [if_pos c62] at H
            have c62b0 : decide (t337 < t329) = true := decide_eq_true c62
            clear c62
            replace H := Option.bind_eq_some_iff.mp H
            obtain ⟨⟨t386, t387, t388, t389, t390, t391, t392, t393⟩, A630, H⟩ := H
            replace H : (if y383.length < 2932031007402 then (some (y383 ++ [(⟨(⟨t386, t387, t388, t389⟩ : S24), (⟨t390, t391, t392, t393⟩ : S24)⟩ : S26)])) else (none)) = some r := H
            have A63 := Aside0.mk A630
            clear A630
            by_cases c64 : y383.length < 2932031007402
            ·rw [if_pos c64] at H
             have LMc64 := Aside0.mk c64
             clear c64
             obtain ⟨y394, hy394⟩ : ∃ y_ : List (S26), y_ = (y383 ++ [(⟨(⟨t386, t387, t388, t389⟩ : S24), (⟨t390, t391, t392, t393⟩ : S24)⟩ : S26)]) := ⟨_, rfl⟩
             replace H : (some y394) = some r := by first | (rw [hy394]; with_reducible exact H) | (have H2_ := (Option.bind_some _ _).symm.trans H; rw [hy394]; with_reducible exact H2_) | (have H2_ := (Option.bind_some _ _).symm.trans H; with_reducible exact H2_) | with_reducible exact H | (rw [hy394]; exact H) | exact H
             have Ny394 := Aside0.mk hy394
             clear hy394
             obtain rfl := Option.some.inj H
             have hnb65 := NB320_321.out
             have hnc65 := NB321_320.out
             have hnb66 := NB320_341.out
             have hnc66 := NB341_320.out
             have hcz67_0 : wc.cell? ⟨gb320, 0, none⟩ = some (.int .i64 t324) := (z0q BK320.out 0).trans rfl
             have hcz67_1 : wc.cell? ⟨gb320, 1, none⟩ = some (.int .i64 t325) := (z0q BK320.out 1).trans rfl
             have hcz67_2 : wc.cell? ⟨gb320, 2, none⟩ = some (.bool t326) := (z0q BK320.out 2).trans rfl
             have hcz67_3 : wc.cell? ⟨gb320, 3, none⟩ = some (.bool t327) := (z0q BK320.out 3).trans rfl
             have hcz67_4 : wc.cell? ⟨gb320, 4, none⟩ = some (.int .i64 t328) := (z0q BK320.out 4).trans rfl
             have hcz67_5 : wc.cell? ⟨gb320, 5, none⟩ = some (.int .i64 t329) := (z0q BK320.out 5).trans rfl
             have hcz67_6 : wc.cell? ⟨gb320, 6, none⟩ = some (.bool t330) := (z0q BK320.out 6).trans rfl
             have hcz67_7 : wc.cell? ⟨gb320, 7, none⟩ = some (.bool t331) := (z0q BK320.out 7).trans rfl
             have hfz67_0 := z1q BK320.out 0
             have hfz67_1 := z1q BK320.out 1
             have hfz67_2 := z1q BK320.out 2
             have hfz67_3 := z1q BK320.out 3
             have hfz67_4 := z1q BK320.out 4
             have hfz67_5 := z1q BK320.out 5
             have hfz67_6 := z1q BK320.out 6
             have hfz67_7 := z1q BK320.out 7
             have hnb68 := NB341_321.out
             have hnc68 := NB321_341.out
             have hcz69_0 : wc.cell? ⟨gb341, 0, none⟩ = some (.int .i64 t332) := (z0q BK341.out 0).trans rfl
             have hcz69_1 : wc.cell? ⟨gb341, 1, none⟩ = some (.int .i64 t333) := (z0q BK341.out 1).trans rfl
             have hcz69_2 : wc.cell? ⟨gb341, 2, none⟩ = some (.bool t334) := (z0q BK341.out 2).trans rfl
             have hcz69_3 : wc.cell? ⟨gb341, 3, none⟩ = some (.bool t335) := (z0q BK341.out 3).trans rfl
             have hcz69_4 : wc.cell? ⟨gb341, 4, none⟩ = some (.int .i64 t336) := (z0q BK341.out 4).trans rfl
             have hcz69_5 : wc.cell? ⟨gb341, 5, none⟩ = some (.int .i64 t337) := (z0q BK341.out 5).trans rfl
             have hcz69_6 : wc.cell? ⟨gb341, 6, none⟩ = some (.bool t338) := (z0q BK341.out 6).trans rfl
             have hcz69_7 : wc.cell? ⟨gb341, 7, none⟩ = some (.bool t339) := (z0q BK341.out 7).trans rfl
             have hfz69_0 := z1q BK341.out 0
             have hfz69_1 := z1q BK341.out 1
             have hfz69_2 := z1q BK341.out 2
             have hfz69_3 := z1q BK341.out 3
             have hfz69_4 := z1q BK341.out 4
             have hfz69_5 := z1q BK341.out 5
             have hfz69_6 := z1q BK341.out 6
             have hfz69_7 := z1q BK341.out 7
             go_wp2_with (first | ((with_reducible refine z15q (f := 21) rfl ?_); refine z23q (some 109) rfl rfl Try.func21 (by kernel_rfl) rfl #[.int .i64 t332, .int .i64 t325, .int .i64 t336, .int .i64 (wrap64 (t333 - 1))] rfl (by (try simp only [map_toArray, map_cons, map_nil]); first | done | rfl | (simp only [length_drop, length_take]; rfl)) ?_; (with_reducible refine (spec_l3Area.calls t332 t325 t336 (wrap64 (t333 - 1)) t375 t376 t377 t378 t379 t380 t381 t382 _ A60.out).mono ?_); rintro e w70 ⟨rfl, hb⟩; refine ⟨_, rfl, ?_⟩; have n0_ := Aside0.mk (Kd.R_below (ro HO_7.out) hb); have n1_ := Aside0.mk (z2q (cy BK320.out) hb); have n2_ := Aside0.mk (z2q (cy BK321.out) hb); have n3_ := Aside0.mk (z2q (cy BK341.out) hb); have n4_ := Aside0.mk (z8q (ibh HB.out) hb); clear HO_7; clear BK320; clear BK321; clear BK341; clear HB; have HO_7 := n0_; have BK320 := n1_; have BK321 := n2_; have BK341 := n3_; have HB := n4_; clear n0_ n1_ n2_ n3_ n4_; (try clear hb); (try clear hb2); (try clear hk); (try clear hi)) | ((with_reducible refine gate_builtin (b := .append) (xs := #[.tmp 95, .tmp 110]) rfl ?_); at_builtin; refine Kd.R_append k26 (w0 := w) w.heap.size rfl (.tmp 95) (.tmp 110) 31 26 (.agg #[(.int .i64 0), (.int .i64 0), (.bool false), (.bool false), (.int .i64 0), (.int .i64 0), (.bool false), (.bool false)]) 48 rfl Try.underlying31 info26 rfl (by decide) (by omega) u7 x7_42 (⟨(⟨t375, t376, t377, t378⟩ : S24), (⟨t379, t380, t381, t382⟩ : S24)⟩ : S26) [.int .i64 t375, .int .i64 t376, .bool t377, .bool t378, .int .i64 t379, .int .i64 t380, .bool t381, .bool t382] (fun k_ => k_ ≠ gb320 ∧ k_ ≠ gb321 ∧ k_ ≠ gb341) (fun _ => False) rfl rfl ?aP (fun _ hk => hk.elim) ?aF ?aO ?aB ?aS ?aL ?_; (case aP => exact k26_mkM _ _ _ (⟨(⟨t375, t376, t377, t378⟩ : S24), (⟨t379, t380, t381, t382⟩ : S24)⟩ : S26)); (case aB => exact (ibh HB.out)); (case aF => exact (fun k_ hk => ⟨Kd.freshB (g := gb320) (o := .cells #[.int .i64 t324, .int .i64 t325, .bool t326, .bool t327, .int .i64 t328, .int .i64 t329, .bool t330, .bool t331] 26 (0, 0)) (cy BK320.out) k_ hk, Kd.freshB (g := gb321) (o := .cells #[.int .i64 a1_0, .int .i64 a1_1, .bool a1_2, .bool a1_3, .int .i64 a1_4, .int .i64 a1_5, .bool a1_6, .bool a1_7] 26 (0, 0)) (cy BK321.out) k_ hk, Kd.freshB (g := gb341) (o := .cells #[.int .i64 t332, .int .i64 t333, .bool t334, .bool t335, .int .i64 t336, .int .i64 t337, .bool t338, .bool t339] 26 (0, 0)) (cy BK341.out) k_ hk⟩)); (case aO => exact (ro HO_7.out)); (case aS => exact (z13q (ibh HB.out))); (case aL => have := LMc61.out; omega); intro v384 w71 ho hb hg hat; rw [← Ny383.out] at ho; have n0_ := Aside0.mk (blk_grown (g := gb320) (o := .cells #[.int .i64 t324, .int .i64 t325, .bool t326, .bool t327, .int .i64 t328, .int .i64 t329, .bool t330, .bool t331] 26 (0, 0)) (cy BK320.out) hg (Kd.R_away HO_7.out (fun _ hk => hk.1))); have n1_ := Aside0.mk (blk_grown (g := gb321) (o := .cells #[.int .i64 a1_0, .int .i64 a1_1, .bool a1_2, .bool a1_3, .int .i64 a1_4, .int .i64 a1_5, .bool a1_6, .bool a1_7] 26 (0, 0)) (cy BK321.out) hg (Kd.R_away HO_7.out (fun _ hk => hk.2.1))); have n2_ := Aside0.mk (blk_grown (g := gb341) (o := .cells #[.int .i64 t332, .int .i64 t333, .bool t334, .bool t335, .int .i64 t336, .int .i64 t337, .bool t338, .bool t339] 26 (0, 0)) (cy BK341.out) hg (Kd.R_away HO_7.out (fun _ hk => hk.2.2))); have n3_ := Aside0.mk (hb); have n4_ := Aside0.mk (ho); clear BK320; clear BK321; clear BK341; clear HB; clear HO_7; have BK320 := n0_; have BK321 := n1_; have BK341 := n2_; have HB := n3_; have HO385 := n4_; clear n0_ n1_ n2_ n3_ n4_; clear ho hb hg hat; have hcz72_0 : w71.cell? ⟨gb320, 0, none⟩ = some (.int .i64 t324) := (z0q BK320.out 0).trans rfl; have hcz72_1 : w71.cell? ⟨gb320, 1, none⟩ = some (.int .i64 t325) := (z0q BK320.out 1).trans rfl; have hcz72_2 : w71.cell? ⟨gb320, 2, none⟩ = some (.bool t326) := (z0q BK320.out 2).trans rfl; have hcz72_3 : w71.cell? ⟨gb320, 3, none⟩ = some (.bool t327) := (z0q BK320.out 3).trans rfl; have hcz72_4 : w71.cell? ⟨gb320, 4, none⟩ = some (.int .i64 t328) := (z0q BK320.out 4).trans rfl; have hcz72_5 : w71.cell? ⟨gb320, 5, none⟩ = some (.int .i64 t329) := (z0q BK320.out 5).trans rfl; have hcz72_6 : w71.cell? ⟨gb320, 6, none⟩ = some (.bool t330) := (z0q BK320.out 6).trans rfl; have hcz72_7 : w71.cell? ⟨gb320, 7, none⟩ = some (.bool t331) := (z0q BK320.out 7).trans rfl; have hfz72_0 := z1q BK320.out 0; have hfz72_1 := z1q BK320.out 1; have hfz72_2 := z1q BK320.out 2; have hfz72_3 := z1q BK320.out 3; have hfz72_4 := z1q BK320.out 4; have hfz72_5 := z1q BK320.out 5; have hfz72_6 := z1q BK320.out 6; have hfz72_7 := z1q BK320.out 7; have hcz73_0 : w71.cell? ⟨gb341, 0, none⟩ = some (.int .i64 t332) := (z0q BK341.out 0).trans rfl; have hcz73_1 : w71.cell? ⟨gb341, 1, none⟩ = some (.int .i64 t333) := (z0q BK341.out 1).trans rfl; have hcz73_2 : w71.cell? ⟨gb341, 2, none⟩ = some (.bool t334) := (z0q BK341.out 2).trans rfl; have hcz73_3 : w71.cell? ⟨gb341, 3, none⟩ = some (.bool t335) := (z0q BK341.out 3).trans rfl; have hcz73_4 : w71.cell? ⟨gb341, 4, none⟩ = some (.int .i64 t336) := (z0q BK341.out 4).trans rfl; have hcz73_5 : w71.cell? ⟨gb341, 5, none⟩ = some (.int .i64 t337) := (z0q BK341.out 5).trans rfl; have hcz73_6 : w71.cell? ⟨gb341, 6, none⟩ = some (.bool t338) := (z0q BK341.out 6).trans rfl; have hcz73_7 : w71.cell? ⟨gb341, 7, none⟩ = some (.bool t339) := (z0q BK341.out 7).trans rfl; have hfz73_0 := z1q BK341.out 0; have hfz73_1 := z1q BK341.out 1; have hfz73_2 := z1q BK341.out 2; have hfz73_3 := z1q BK341.out 3; have hfz73_4 := z1q BK341.out 4; have hfz73_5 := z1q BK341.out 5; have hfz73_6 := z1q BK341.out 6; have hfz73_7 := z1q BK341.out 7) | ((with_reducible refine z15q (f := 21) rfl ?_); refine z23q (some 133) rfl rfl Try.func21 (by kernel_rfl) rfl #[.int .i64 t332, .int .i64 (wrap64 (t337 + 1)), .int .i64 t336, .int .i64 t329] rfl (by (try simp only [map_toArray, map_cons, map_nil]); first | done | rfl | (simp only [length_drop, length_take]; rfl)) ?_; (with_reducible refine (spec_l3Area.calls t332 (wrap64 (t337 + 1)) t336 t329 t386 t387 t388 t389 t390 t391 t392 t393 _ A63.out).mono ?_); rintro e w74 ⟨rfl, hb⟩; refine ⟨_, rfl, ?_⟩; have n0_ := Aside0.mk (Kd.R_below (ro HO385.out) hb); have n1_ := Aside0.mk (z2q (cy BK320.out) hb); have n2_ := Aside0.mk (z2q (cy BK321.out) hb); have n3_ := Aside0.mk (z2q (cy BK341.out) hb); have n4_ := Aside0.mk (z8q (ibh HB.out) hb); clear HO385; clear BK320; clear BK321; clear BK341; clear HB; have HO385 := n0_; have BK320 := n1_; have BK321 := n2_; have BK341 := n3_; have HB := n4_; clear n0_ n1_ n2_ n3_ n4_; (try clear hb); (try clear hb2); (try clear hk); (try clear hi)) | ((with_reducible refine gate_builtin (b := .append) (xs := #[.tmp 119, .tmp 134]) rfl ?_); at_builtin; refine Kd.R_append k26 (w0 := w) w.heap.size rfl (.tmp 119) (.tmp 134) 31 26 (.agg #[(.int .i64 0), (.int .i64 0), (.bool false), (.bool false), (.int .i64 0), (.int .i64 0), (.bool false), (.bool false)]) 48 rfl Try.underlying31 info26 rfl (by decide) (by omega) v384 y383 (⟨(⟨t386, t387, t388, t389⟩ : S24), (⟨t390, t391, t392, t393⟩ : S24)⟩ : S26) [.int .i64 t386, .int .i64 t387, .bool t388, .bool t389, .int .i64 t390, .int .i64 t391, .bool t392, .bool t393] (fun k_ => k_ ≠ gb320 ∧ k_ ≠ gb321 ∧ k_ ≠ gb341) (fun _ => False) rfl rfl ?aP (fun _ hk => hk.elim) ?aF ?aO ?aB ?aS ?aL ?_; (case aP => exact k26_mkM _ _ _ (⟨(⟨t386, t387, t388, t389⟩ : S24), (⟨t390, t391, t392, t393⟩ : S24)⟩ : S26)); (case aB => exact (ibh HB.out)); (case aF => exact (fun k_ hk => ⟨Kd.freshB (g := gb320) (o := .cells #[.int .i64 t324, .int .i64 t325, .bool t326, .bool t327, .int .i64 t328, .int .i64 t329, .bool t330, .bool t331] 26 (0, 0)) (cy BK320.out) k_ hk, Kd.freshB (g := gb321) (o := .cells #[.int .i64 a1_0, .int .i64 a1_1, .bool a1_2, .bool a1_3, .int .i64 a1_4, .int .i64 a1_5, .bool a1_6, .bool a1_7] 26 (0, 0)) (cy BK321.out) k_ hk, Kd.freshB (g := gb341) (o := .cells #[.int .i64 t332, .int .i64 t333, .bool t334, .bool t335, .int .i64 t336, .int .i64 t337, .bool t338, .bool t339] 26 (0, 0)) (cy BK341.out) k_ hk⟩)); (case aO => exact (ro HO385.out)); (case aS => exact (z13q (ibh HB.out))); (case aL => have := LMc64.out; omega); intro v395 w75 ho hb hg hat; rw [← Ny394.out] at ho; have n0_ := Aside0.mk (blk_grown (g := gb320) (o := .cells #[.int .i64 t324, .int .i64 t325, .bool t326, .bool t327, .int .i64 t328, .int .i64 t329, .bool t330, .bool t331] 26 (0, 0)) (cy BK320.out) hg (Kd.R_away HO385.out (fun _ hk => hk.1))); have n1_ := Aside0.mk (blk_grown (g := gb321) (o := .cells #[.int .i64 a1_0, .int .i64 a1_1, .bool a1_2, .bool a1_3, .int .i64 a1_4, .int .i64 a1_5, .bool a1_6, .bool a1_7] 26 (0, 0)) (cy BK321.out) hg (Kd.R_away HO385.out (fun _ hk => hk.2.1))); have n2_ := Aside0.mk (blk_grown (g := gb341) (o := .cells #[.int .i64 t332, .int .i64 t333, .bool t334, .bool t335, .int .i64 t336, .int .i64 t337, .bool t338, .bool t339] 26 (0, 0)) (cy BK341.out) hg (Kd.R_away HO385.out (fun _ hk => hk.2.2))); have n3_ := Aside0.mk (hb); have n4_ := Aside0.mk (ho); clear BK320; clear BK321; clear BK341; clear HB; clear HO385; have BK320 := n0_; have BK321 := n1_; have BK341 := n2_; have HB := n3_; have HO396 := n4_; clear n0_ n1_ n2_ n3_ n4_; clear ho hb hg hat))
             go_ret
             exact ⟨_, by first | rfl | (simp [errW_none, errW_some] <;> rfl) | (simp [*, errW_none, errW_some] <;> rfl), by (with_reducible repeat (first | apply Kd.R_alloc | apply Kd.R_drewN | apply Kd.R_drew)); exact Kd.R_mono HO396.out (fun _ hk => trivial), by repeat (first | (with_reducible first | exact HB.out | apply z7q | apply z5q | apply z12q | refine z3q ?_ GE320.out | refine z3q ?_ GE321.out | refine z3q ?_ GE341.out) | exact HB.out)⟩
            ·rw [if_neg c64] at H
             exact absurd H (by simp)
           ·rw [if_neg c62] at H
            have c62b0 : decide (t337 < t329) = false := decide_eq_false c62
            clear c62
            obtain rfl := Option.some.inj H
            have hnb76 := NB320_321.out
            have hnc76 := NB321_320.out
            have hnb77 := NB320_341.out
            have hnc77 := NB341_320.out
            have hcz78_0 : wc.cell? ⟨gb320, 0, none⟩ = some (.int .i64 t324) := (z0q BK320.out 0).trans rfl
            have hcz78_1 : wc.cell? ⟨gb320, 1, none⟩ = some (.int .i64 t325) := (z0q BK320.out 1).trans rfl
            have hcz78_2 : wc.cell? ⟨gb320, 2, none⟩ = some (.bool t326) := (z0q BK320.out 2).trans rfl
            have hcz78_3 : wc.cell? ⟨gb320, 3, none⟩ = some (.bool t327) := (z0q BK320.out 3).trans rfl
            have hcz78_4 : wc.cell? ⟨gb320, 4, none⟩ = some (.int .i64 t328) := (z0q BK320.out 4).trans rfl
            have hcz78_5 : wc.cell? ⟨gb320, 5, none⟩ = some (.int .i64 t329) := (z0q BK320.out 5).trans rfl
            have hcz78_6 : wc.cell? ⟨gb320, 6, none⟩ = some (.bool t330) := (z0q BK320.out 6).trans rfl
            have hcz78_7 : wc.cell? ⟨gb320, 7, none⟩ = some (.bool t331) := (z0q BK320.out 7).trans rfl
            have hfz78_0 := z1q BK320.out 0
            have hfz78_1 := z1q BK320.out 1
            have hfz78_2 := z1q BK320.out 2
            have hfz78_3 := z1q BK320.out 3
            have hfz78_4 := z1q BK320.out 4
            have hfz78_5 := z1q BK320.out 5
            have hfz78_6 := z1q BK320.out 6
            have hfz78_7 := z1q BK320.out 7
            have hnb79 := NB341_321.out
            have hnc79 := NB321_341.out
            have hcz80_0 : wc.cell? ⟨gb341, 0, none⟩ = some (.int .i64 t332) := (z0q BK341.out 0).trans rfl
            have hcz80_1 : wc.cell? ⟨gb341, 1, none⟩ = some (.int .i64 t333) := (z0q BK341.out 1).trans rfl
            have hcz80_2 : wc.cell? ⟨gb341, 2, none⟩ = some (.bool t334) := (z0q BK341.out 2).trans rfl
            have hcz80_3 : wc.cell? ⟨gb341, 3, none⟩ = some (.bool t335) := (z0q BK341.out 3).trans rfl
            have hcz80_4 : wc.cell? ⟨gb341, 4, none⟩ = some (.int .i64 t336) := (z0q BK341.out 4).trans rfl
            have hcz80_5 : wc.cell? ⟨gb341, 5, none⟩ = some (.int .i64 t337) := (z0q BK341.out 5).trans rfl
            have hcz80_6 : wc.cell? ⟨gb341, 6, none⟩ = some (.bool t338) := (z0q BK341.out 6).trans rfl
            have hcz80_7 : wc.cell? ⟨gb341, 7, none⟩ = some (.bool t339) := (z0q BK341.out 7).trans rfl
            have hfz80_0 := z1q BK341.out 0
            have hfz80_1 := z1q BK341.out 1
            have hfz80_2 := z1q BK341.out 2
            have hfz80_3 := z1q BK341.out 3
            have hfz80_4 := z1q BK341.out 4
            have hfz80_5 := z1q BK341.out 5
            have hfz80_6 := z1q BK341.out 6
            have hfz80_7 := z1q BK341.out 7
            go_wp2_with (first | ((with_reducible refine z15q (f := 21) rfl ?_); refine z23q (some 109) rfl rfl Try.func21 (by kernel_rfl) rfl #[.int .i64 t332, .int .i64 t325, .int .i64 t336, .int .i64 (wrap64 (t333 - 1))] rfl (by (try simp only [map_toArray, map_cons, map_nil]); first | done | rfl | (simp only [length_drop, length_take]; rfl)) ?_; (with_reducible refine (spec_l3Area.calls t332 t325 t336 (wrap64 (t333 - 1)) t375 t376 t377 t378 t379 t380 t381 t382 _ A60.out).mono ?_); rintro e w81 ⟨rfl, hb⟩; refine ⟨_, rfl, ?_⟩; have n0_ := Aside0.mk (Kd.R_below (ro HO_7.out) hb); have n1_ := Aside0.mk (z2q (cy BK320.out) hb); have n2_ := Aside0.mk (z2q (cy BK321.out) hb); have n3_ := Aside0.mk (z2q (cy BK341.out) hb); have n4_ := Aside0.mk (z8q (ibh HB.out) hb); clear HO_7; clear BK320; clear BK321; clear BK341; clear HB; have HO_7 := n0_; have BK320 := n1_; have BK321 := n2_; have BK341 := n3_; have HB := n4_; clear n0_ n1_ n2_ n3_ n4_; (try clear hb); (try clear hb2); (try clear hk); (try clear hi)) | ((with_reducible refine gate_builtin (b := .append) (xs := #[.tmp 95, .tmp 110]) rfl ?_); at_builtin; refine Kd.R_append k26 (w0 := w) w.heap.size rfl (.tmp 95) (.tmp 110) 31 26 (.agg #[(.int .i64 0), (.int .i64 0), (.bool false), (.bool false), (.int .i64 0), (.int .i64 0), (.bool false), (.bool false)]) 48 rfl Try.underlying31 info26 rfl (by decide) (by omega) u7 x7_42 (⟨(⟨t375, t376, t377, t378⟩ : S24), (⟨t379, t380, t381, t382⟩ : S24)⟩ : S26) [.int .i64 t375, .int .i64 t376, .bool t377, .bool t378, .int .i64 t379, .int .i64 t380, .bool t381, .bool t382] (fun k_ => k_ ≠ gb320 ∧ k_ ≠ gb321 ∧ k_ ≠ gb341) (fun _ => False) rfl rfl ?aP (fun _ hk => hk.elim) ?aF ?aO ?aB ?aS ?aL ?_; (case aP => exact k26_mkM _ _ _ (⟨(⟨t375, t376, t377, t378⟩ : S24), (⟨t379, t380, t381, t382⟩ : S24)⟩ : S26)); (case aB => exact (ibh HB.out)); (case aF => exact (fun k_ hk => ⟨Kd.freshB (g := gb320) (o := .cells #[.int .i64 t324, .int .i64 t325, .bool t326, .bool t327, .int .i64 t328, .int .i64 t329, .bool t330, .bool t331] 26 (0, 0)) (cy BK320.out) k_ hk, Kd.freshB (g := gb321) (o := .cells #[.int .i64 a1_0, .int .i64 a1_1, .bool a1_2, .bool a1_3, .int .i64 a1_4, .int .i64 a1_5, .bool a1_6, .bool a1_7] 26 (0, 0)) (cy BK321.out) k_ hk, Kd.freshB (g := gb341) (o := .cells #[.int .i64 t332, .int .i64 t333, .bool t334, .bool t335, .int .i64 t336, .int .i64 t337, .bool t338, .bool t339] 26 (0, 0)) (cy BK341.out) k_ hk⟩)); (case aO => exact (ro HO_7.out)); (case aS => exact (z13q (ibh HB.out))); (case aL => have := LMc61.out; omega); intro v384 w82 ho hb hg hat; rw [← Ny383.out] at ho; have n0_ := Aside0.mk (blk_grown (g := gb320) (o := .cells #[.int .i64 t324, .int .i64 t325, .bool t326, .bool t327, .int .i64 t328, .int .i64 t329, .bool t330, .bool t331] 26 (0, 0)) (cy BK320.out) hg (Kd.R_away HO_7.out (fun _ hk => hk.1))); have n1_ := Aside0.mk (blk_grown (g := gb321) (o := .cells #[.int .i64 a1_0, .int .i64 a1_1, .bool a1_2, .bool a1_3, .int .i64 a1_4, .int .i64 a1_5, .bool a1_6, .bool a1_7] 26 (0, 0)) (cy BK321.out) hg (Kd.R_away HO_7.out (fun _ hk => hk.2.1))); have n2_ := Aside0.mk (blk_grown (g := gb341) (o := .cells #[.int .i64 t332, .int .i64 t333, .bool t334, .bool t335, .int .i64 t336, .int .i64 t337, .bool t338, .bool t339] 26 (0, 0)) (cy BK341.out) hg (Kd.R_away HO_7.out (fun _ hk => hk.2.2))); have n3_ := Aside0.mk (hb); have n4_ := Aside0.mk (ho); clear BK320; clear BK321; clear BK341; clear HB; clear HO_7; have BK320 := n0_; have BK321 := n1_; have BK341 := n2_; have HB := n3_; have HO385 := n4_; clear n0_ n1_ n2_ n3_ n4_; clear ho hb hg hat; have hcz83_0 : w82.cell? ⟨gb320, 0, none⟩ = some (.int .i64 t324) := (z0q BK320.out 0).trans rfl; have hcz83_1 : w82.cell? ⟨gb320, 1, none⟩ = some (.int .i64 t325) := (z0q BK320.out 1).trans rfl; have hcz83_2 : w82.cell? ⟨gb320, 2, none⟩ = some (.bool t326) := (z0q BK320.out 2).trans rfl; have hcz83_3 : w82.cell? ⟨gb320, 3, none⟩ = some (.bool t327) := (z0q BK320.out 3).trans rfl; have hcz83_4 : w82.cell? ⟨gb320, 4, none⟩ = some (.int .i64 t328) := (z0q BK320.out 4).trans rfl; have hcz83_5 : w82.cell? ⟨gb320, 5, none⟩ = some (.int .i64 t329) := (z0q BK320.out 5).trans rfl; have hcz83_6 : w82.cell? ⟨gb320, 6, none⟩ = some (.bool t330) := (z0q BK320.out 6).trans rfl; have hcz83_7 : w82.cell? ⟨gb320, 7, none⟩ = some (.bool t331) := (z0q BK320.out 7).trans rfl; have hfz83_0 := z1q BK320.out 0; have hfz83_1 := z1q BK320.out 1; have hfz83_2 := z1q BK320.out 2; have hfz83_3 := z1q BK320.out 3; have hfz83_4 := z1q BK320.out 4; have hfz83_5 := z1q BK320.out 5; have hfz83_6 := z1q BK320.out 6; have hfz83_7 := z1q BK320.out 7; have hcz84_0 : w82.cell? ⟨gb341, 0, none⟩ = some (.int .i64 t332) := (z0q BK341.out 0).trans rfl; have hcz84_1 : w82.cell? ⟨gb341, 1, none⟩ = some (.int .i64 t333) := (z0q BK341.out 1).trans rfl; have hcz84_2 : w82.cell? ⟨gb341, 2, none⟩ = some (.bool t334) := (z0q BK341.out 2).trans rfl; have hcz84_3 : w82.cell? ⟨gb341, 3, none⟩ = some (.bool t335) := (z0q BK341.out 3).trans rfl; have hcz84_4 : w82.cell? ⟨gb341, 4, none⟩ = some (.int .i64 t336) := (z0q BK341.out 4).trans rfl; have hcz84_5 : w82.cell? ⟨gb341, 5, none⟩ = some (.int .i64 t337) := (z0q BK341.out 5).trans rfl; have hcz84_6 : w82.cell? ⟨gb341, 6, none⟩ = some (.bool t338) := (z0q BK341.out 6).trans rfl; have hcz84_7 : w82.cell? ⟨gb341, 7, none⟩ = some (.bool t339) := (z0q BK341.out 7).trans rfl; have hfz84_0 := z1q BK341.out 0; have hfz84_1 := z1q BK341.out 1; have hfz84_2 := z1q BK341.out 2; have hfz84_3 := z1q BK341.out 3; have hfz84_4 := z1q BK341.out 4; have hfz84_5 := z1q BK341.out 5; have hfz84_6 := z1q BK341.out 6; have hfz84_7 := z1q BK341.out 7))
            go_ret
            exact ⟨_, by first | rfl | (simp [errW_none, errW_some] <;> rfl) | (simp [*, errW_none, errW_some] <;> rfl), by (with_reducible repeat (first | apply Kd.R_alloc | apply Kd.R_drewN | apply Kd.R_drew)); exact Kd.R_mono HO385.out (fun _ hk => trivial), by repeat (first | (with_reducible first | exact HB.out | apply z7q | apply z5q | apply z12q | refine z3q ?_ GE320.out | refine z3q ?_ GE321.out | refine z3q ?_ GE341.out) | exact HB.out)⟩
          ·rw [if_neg c61] at H
           exact absurd H (by simp)
         ·rw [if_neg c59] at H
          have c59b0 : decide (t325 < t333) = false := decide_eq_false c59
          clear c59
          by_cases c85 : t329 > t337
          ·rw [if_pos c85] at H
           have c85b0 : decide (t337 < t329) = true := decide_eq_true c85
           clear c85
           replace H := Option.bind_eq_some_iff.mp H
           obtain ⟨⟨t397, t398, t399, t400, t401, t402, t403, t404⟩, A860, H⟩ := H
           replace H : (if x7_42.length < 2932031007402 then (some (x7_42 ++ [(⟨(⟨t397, t398, t399, t400⟩ : S24), (⟨t401, t402, t403, t404⟩ : S24)⟩ : S26)])) else (none)) = some r := H
           have A86 := Aside0.mk A860
           clear A860
           by_cases c87 : x7_42.length < 2932031007402
           ·rw [if_pos c87] at H
            have LMc87 := Aside0.mk c87
            clear c87
            obtain ⟨y405, hy405⟩ : ∃ y_ : List (S26), y_ = (x7_42 ++ [(⟨(⟨t397, t398, t399, t400⟩ : S24), (⟨t401, t402, t403, t404⟩ : S24)⟩ : S26)]) := ⟨_, rfl⟩
            replace H : (some y405) = some r := by first | (rw [hy405]; with_reducible exact H) | (have H2_ := (Option.bind_some _ _).symm.trans H; rw [hy405]; with_reducible exact H2_) | (have H2_ := (Option.bind_some _ _).symm.trans H; with_reducible exact H2_) | with_reducible exact H | (rw [hy405]; exact H) | exact H
            have Ny405 := Aside0.mk hy405
            clear hy405
            obtain rfl := Option.some.inj H
            have hnb88 := NB320_321.out
            have hnc88 := NB321_320.out
            have hnb89 := NB320_341.out
            have hnc89 := NB341_320.out
            have hcz90_0 : wc.cell? ⟨gb320, 0, none⟩ = some (.int .i64 t324) := (z0q BK320.out 0).trans rfl
            have hcz90_1 : wc.cell? ⟨gb320, 1, none⟩ = some (.int .i64 t325) := (z0q BK320.out 1).trans rfl
            have hcz90_2 : wc.cell? ⟨gb320, 2, none⟩ = some (.bool t326) := (z0q BK320.out 2).trans rfl
            have hcz90_3 : wc.cell? ⟨gb320, 3, none⟩ = some (.bool t327) := (z0q BK320.out 3).trans rfl
            have hcz90_4 : wc.cell? ⟨gb320, 4, none⟩ = some (.int .i64 t328) := (z0q BK320.out 4).trans rfl
            have hcz90_5 : wc.cell? ⟨gb320, 5, none⟩ = some (.int .i64 t329) := (z0q BK320.out 5).trans rfl
            have hcz90_6 : wc.cell? ⟨gb320, 6, none⟩ = some (.bool t330) := (z0q BK320.out 6).trans rfl
            have hcz90_7 : wc.cell? ⟨gb320, 7, none⟩ = some (.bool t331) := (z0q BK320.out 7).trans rfl
            have hfz90_0 := z1q BK320.out 0
            have hfz90_1 := z1q BK320.out 1
            have hfz90_2 := z1q BK320.out 2
            have hfz90_3 := z1q BK320.out 3
            have hfz90_4 := z1q BK320.out 4
            have hfz90_5 := z1q BK320.out 5
            have hfz90_6 := z1q BK320.out 6
            have hfz90_7 := z1q BK320.out 7
            have hnb91 := NB341_321.out
            have hnc91 := NB321_341.out
            have hcz92_0 : wc.cell? ⟨gb341, 0, none⟩ = some (.int .i64 t332) := (z0q BK341.out 0).trans rfl
            have hcz92_1 : wc.cell? ⟨gb341, 1, none⟩ = some (.int .i64 t333) := (z0q BK341.out 1).trans rfl
            have hcz92_2 : wc.cell? ⟨gb341, 2, none⟩ = some (.bool t334) := (z0q BK341.out 2).trans rfl
            have hcz92_3 : wc.cell? ⟨gb341, 3, none⟩ = some (.bool t335) := (z0q BK341.out 3).trans rfl
            have hcz92_4 : wc.cell? ⟨gb341, 4, none⟩ = some (.int .i64 t336) := (z0q BK341.out 4).trans rfl
            have hcz92_5 : wc.cell? ⟨gb341, 5, none⟩ = some (.int .i64 t337) := (z0q BK341.out 5).trans rfl
            have hcz92_6 : wc.cell? ⟨gb341, 6, none⟩ = some (.bool t338) := (z0q BK341.out 6).trans rfl
            have hcz92_7 : wc.cell? ⟨gb341, 7, none⟩ = some (.bool t339) := (z0q BK341.out 7).trans rfl
            have hfz92_0 := z1q BK341.out 0
            have hfz92_1 := z1q BK341.out 1
            have hfz92_2 := z1q BK341.out 2
            have hfz92_3 := z1q BK341.out 3
            have hfz92_4 := z1q BK341.out 4
            have hfz92_5 := z1q BK341.out 5
            have hfz92_6 := z1q BK341.out 6
            have hfz92_7 := z1q BK341.out 7
            go_wp2_with (first | ((with_reducible refine z15q (f := 21) rfl ?_); refine z23q (some 133) rfl rfl Try.func21 (by kernel_rfl) rfl #[.int .i64 t332, .int .i64 (wrap64 (t337 + 1)), .int .i64 t336, .int .i64 t329] rfl (by (try simp only [map_toArray, map_cons, map_nil]); first | done | rfl | (simp only [length_drop, length_take]; rfl)) ?_; (with_reducible refine (spec_l3Area.calls t332 (wrap64 (t337 + 1)) t336 t329 t397 t398 t399 t400 t401 t402 t403 t404 _ A86.out).mono ?_); rintro e w93 ⟨rfl, hb⟩; refine ⟨_, rfl, ?_⟩; have n0_ := Aside0.mk (Kd.R_below (ro HO_7.out) hb); have n1_ := Aside0.mk (z2q (cy BK320.out) hb); have n2_ := Aside0.mk (z2q (cy BK321.out) hb); have n3_ := Aside0.mk (z2q (cy BK341.out) hb); have n4_ := Aside0.mk (z8q (ibh HB.out) hb); clear HO_7; clear BK320; clear BK321; clear BK341; clear HB; have HO_7 := n0_; have BK320 := n1_; have BK321 := n2_; have BK341 := n3_; have HB := n4_; clear n0_ n1_ n2_ n3_ n4_; (try clear hb); (try clear hb2); (try clear hk); (try clear hi)) | ((with_reducible refine gate_builtin (b := .append) (xs := #[.tmp 119, .tmp 134]) rfl ?_); at_builtin; refine Kd.R_append k26 (w0 := w) w.heap.size rfl (.tmp 119) (.tmp 134) 31 26 (.agg #[(.int .i64 0), (.int .i64 0), (.bool false), (.bool false), (.int .i64 0), (.int .i64 0), (.bool false), (.bool false)]) 48 rfl Try.underlying31 info26 rfl (by decide) (by omega) u7 x7_42 (⟨(⟨t397, t398, t399, t400⟩ : S24), (⟨t401, t402, t403, t404⟩ : S24)⟩ : S26) [.int .i64 t397, .int .i64 t398, .bool t399, .bool t400, .int .i64 t401, .int .i64 t402, .bool t403, .bool t404] (fun k_ => k_ ≠ gb320 ∧ k_ ≠ gb321 ∧ k_ ≠ gb341) (fun _ => False) rfl rfl ?aP (fun _ hk => hk.elim) ?aF ?aO ?aB ?aS ?aL ?_; (case aP => exact k26_mkM _ _ _ (⟨(⟨t397, t398, t399, t400⟩ : S24), (⟨t401, t402, t403, t404⟩ : S24)⟩ : S26)); (case aB => exact (ibh HB.out)); (case aF => exact (fun k_ hk => ⟨Kd.freshB (g := gb320) (o := .cells #[.int .i64 t324, .int .i64 t325, .bool t326, .bool t327, .int .i64 t328, .int .i64 t329, .bool t330, .bool t331] 26 (0, 0)) (cy BK320.out) k_ hk, Kd.freshB (g := gb321) (o := .cells #[.int .i64 a1_0, .int .i64 a1_1, .bool a1_2, .bool a1_3, .int .i64 a1_4, .int .i64 a1_5, .bool a1_6, .bool a1_7] 26 (0, 0)) (cy BK321.out) k_ hk, Kd.freshB (g := gb341) (o := .cells #[.int .i64 t332, .int .i64 t333, .bool t334, .bool t335, .int .i64 t336, .int .i64 t337, .bool t338, .bool t339] 26 (0, 0)) (cy BK341.out) k_ hk⟩)); (case aO => exact (ro HO_7.out)); (case aS => exact (z13q (ibh HB.out))); (case aL => have := LMc87.out; omega); intro v406 w94 ho hb hg hat; rw [← Ny405.out] at ho; have n0_ := Aside0.mk (blk_grown (g := gb320) (o := .cells #[.int .i64 t324, .int .i64 t325, .bool t326, .bool t327, .int .i64 t328, .int .i64 t329, .bool t330, .bool t331] 26 (0, 0)) (cy BK320.out) hg (Kd.R_away HO_7.out (fun _ hk => hk.1))); have n1_ := Aside0.mk (blk_grown (g := gb321) (o := .cells #[.int .i64 a1_0, .int .i64 a1_1, .bool a1_2, .bool a1_3, .int .i64 a1_4, .int .i64 a1_5, .bool a1_6, .bool a1_7] 26 (0, 0)) (cy BK321.out) hg (Kd.R_away HO_7.out (fun _ hk => hk.2.1))); have n2_ := Aside0.mk (blk_grown (g := gb341) (o := .cells #[.int .i64 t332, .int .i64 t333, .bool t334, .bool t335, .int .i64 t336, .int .i64 t337, .bool t338, .bool t339] 26 (0, 0)) (cy BK341.out) hg (Kd.R_away HO_7.out (fun _ hk => hk.2.2))); have n3_ := Aside0.mk (hb); have n4_ := Aside0.mk (ho); clear BK320; clear BK321; clear BK341; clear HB; clear HO_7; have BK320 := n0_; have BK321 := n1_; have BK341 := n2_; have HB := n3_; have HO407 := n4_; clear n0_ n1_ n2_ n3_ n4_; clear ho hb hg hat))
            go_ret
            exact ⟨_, by first | rfl | (simp [errW_none, errW_some] <;> rfl) | (simp [*, errW_none, errW_some] <;> rfl), by (with_reducible repeat (first | apply Kd.R_alloc | apply Kd.R_drewN | apply Kd.R_drew)); exact Kd.R_mono HO407.out (fun _ hk => trivial), by repeat (first | (with_reducible first | exact HB.out | apply z7q | apply z5q | apply z12q | refine z3q ?_ GE320.out | refine z3q ?_ GE321.out | refine z3q ?_ GE341.out) | exact HB.out)⟩
           ·rw [if_neg c87] at H
            exact absurd H (by simp)
          ·rw [if_neg c85] at H
           have c85b0 : decide (t337 < t329) = false := decide_eq_false c85
           clear c85
           obtain rfl := Option.some.inj H
           have hnb95 := NB320_321.out
           have hnc95 := NB321_320.out
           have hnb96 := NB320_341.out
           have hnc96 := NB341_320.out
           have hcz97_0 : wc.cell? ⟨gb320, 0, none⟩ = some (.int .i64 t324) := (z0q BK320.out 0).trans rfl
           have hcz97_1 : wc.cell? ⟨gb320, 1, none⟩ = some (.int .i64 t325) := (z0q BK320.out 1).trans rfl
           have hcz97_2 : wc.cell? ⟨gb320, 2, none⟩ = some (.bool t326) := (z0q BK320.out 2).trans rfl
           have hcz97_3 : wc.cell? ⟨gb320, 3, none⟩ = some (.bool t327) := (z0q BK320.out 3).trans rfl
           have hcz97_4 : wc.cell? ⟨gb320, 4, none⟩ = some (.int .i64 t328) := (z0q BK320.out 4).trans rfl
           have hcz97_5 : wc.cell? ⟨gb320, 5, none⟩ = some (.int .i64 t329) := (z0q BK320.out 5).trans rfl
           have hcz97_6 : wc.cell? ⟨gb320, 6, none⟩ = some (.bool t330) := (z0q BK320.out 6).trans rfl
           have hcz97_7 : wc.cell? ⟨gb320, 7, none⟩ = some (.bool t331) := (z0q BK320.out 7).trans rfl
           have hfz97_0 := z1q BK320.out 0
           have hfz97_1 := z1q BK320.out 1
           have hfz97_2 := z1q BK320.out 2
           have hfz97_3 := z1q BK320.out 3
           have hfz97_4 := z1q BK320.out 4
           have hfz97_5 := z1q BK320.out 5
           have hfz97_6 := z1q BK320.out 6
           have hfz97_7 := z1q BK320.out 7
           have hnb98 := NB341_321.out
           have hnc98 := NB321_341.out
           have hcz99_0 : wc.cell? ⟨gb341, 0, none⟩ = some (.int .i64 t332) := (z0q BK341.out 0).trans rfl
           have hcz99_1 : wc.cell? ⟨gb341, 1, none⟩ = some (.int .i64 t333) := (z0q BK341.out 1).trans rfl
           have hcz99_2 : wc.cell? ⟨gb341, 2, none⟩ = some (.bool t334) := (z0q BK341.out 2).trans rfl
           have hcz99_3 : wc.cell? ⟨gb341, 3, none⟩ = some (.bool t335) := (z0q BK341.out 3).trans rfl
           have hcz99_4 : wc.cell? ⟨gb341, 4, none⟩ = some (.int .i64 t336) := (z0q BK341.out 4).trans rfl
           have hcz99_5 : wc.cell? ⟨gb341, 5, none⟩ = some (.int .i64 t337) := (z0q BK341.out 5).trans rfl
           have hcz99_6 : wc.cell? ⟨gb341, 6, none⟩ = some (.bool t338) := (z0q BK341.out 6).trans rfl
           have hcz99_7 : wc.cell? ⟨gb341, 7, none⟩ = some (.bool t339) := (z0q BK341.out 7).trans rfl
           have hfz99_0 := z1q BK341.out 0
           have hfz99_1 := z1q BK341.out 1
           have hfz99_2 := z1q BK341.out 2
           have hfz99_3 := z1q BK341.out 3
           have hfz99_4 := z1q BK341.out 4
           have hfz99_5 := z1q BK341.out 5
           have hfz99_6 := z1q BK341.out 6
           have hfz99_7 := z1q BK341.out 7
           go_wp2
           go_ret
           exact ⟨_, by first | rfl | (simp [errW_none, errW_some] <;> rfl) | (simp [*, errW_none, errW_some] <;> rfl), by (with_reducible repeat (first | apply Kd.R_alloc | apply Kd.R_drewN | apply Kd.R_drew)); exact Kd.R_mono HO_7.out (fun _ hk => trivial), by repeat (first | (with_reducible first | exact HB.out | apply z7q | apply z5q | apply z12q | refine z3q ?_ GE320.out | refine z3q ?_ GE321.out | refine z3q ?_ GE341.out) | exact HB.out)⟩
    ·replace c20 := Bool.eq_false_iff.mpr c20
     subst c20
     have H1 : ((spec_l3Area.f t324 t325 t328 t329).bind fun bt342 => (some (([(⟨(⟨bt342.1, bt342.2.1, bt342.2.2.1, bt342.2.2.2.1⟩ : S24), (⟨bt342.2.2.2.2.1, bt342.2.2.2.2.2.1, bt342.2.2.2.2.2.2.1, bt342.2.2.2.2.2.2.2⟩ : S24)⟩ : S26)] : List (S26))))) = some r := by rw [if_neg (show ¬ (false = true) by decide)] at H; exact H
     clear H
     have H := H1
     clear H1
     replace H := Option.bind_eq_some_iff.mp H
     obtain ⟨⟨t342, t343, t344, t345, t346, t347, t348, t349⟩, A1000, H⟩ := H
     replace H : (some (([(⟨(⟨t342, t343, t344, t345⟩ : S24), (⟨t346, t347, t348, t349⟩ : S24)⟩ : S26)] : List (S26)))) = some r := H
     have A100 := Aside0.mk A1000
     clear A1000
     obtain ⟨y350, hy350⟩ : ∃ y_ : List (S26), y_ = (([(⟨(⟨t342, t343, t344, t345⟩ : S24), (⟨t346, t347, t348, t349⟩ : S24)⟩ : S26)] : List (S26))) := ⟨_, rfl⟩
     replace H : (some y350) = some r := by first | (rw [hy350]; with_reducible exact H) | (have H2_ := (Option.bind_some _ _).symm.trans H; rw [hy350]; with_reducible exact H2_) | (have H2_ := (Option.bind_some _ _).symm.trans H; with_reducible exact H2_) | with_reducible exact H | (rw [hy350]; exact H) | exact H
     have Ny350 := Aside0.mk hy350
     clear hy350
     obtain rfl := Option.some.inj H
     have hnb101 := NB320_321.out
     have hnc101 := NB321_320.out
     have hcz102_0 : wc.cell? ⟨gb320, 0, none⟩ = some (.int .i64 a0_0) := (z0q BK320.out 0).trans rfl
     have hcz102_1 : wc.cell? ⟨gb320, 1, none⟩ = some (.int .i64 a0_1) := (z0q BK320.out 1).trans rfl
     have hcz102_2 : wc.cell? ⟨gb320, 2, none⟩ = some (.bool a0_2) := (z0q BK320.out 2).trans rfl
     have hcz102_3 : wc.cell? ⟨gb320, 3, none⟩ = some (.bool a0_3) := (z0q BK320.out 3).trans rfl
     have hcz102_4 : wc.cell? ⟨gb320, 4, none⟩ = some (.int .i64 a0_4) := (z0q BK320.out 4).trans rfl
     have hcz102_5 : wc.cell? ⟨gb320, 5, none⟩ = some (.int .i64 a0_5) := (z0q BK320.out 5).trans rfl
     have hcz102_6 : wc.cell? ⟨gb320, 6, none⟩ = some (.bool a0_6) := (z0q BK320.out 6).trans rfl
     have hcz102_7 : wc.cell? ⟨gb320, 7, none⟩ = some (.bool a0_7) := (z0q BK320.out 7).trans rfl
     have hfz102_0 := z1q BK320.out 0
     have hfz102_1 := z1q BK320.out 1
     have hfz102_2 := z1q BK320.out 2
     have hfz102_3 := z1q BK320.out 3
     have hfz102_4 := z1q BK320.out 4
     have hfz102_5 := z1q BK320.out 5
     have hfz102_6 := z1q BK320.out 6
     have hfz102_7 := z1q BK320.out 7
     go_wp2_with (first | ((with_reducible refine z15q (f := 20) rfl ?_); refine z23q (some 17) rfl rfl Try.func20 (by kernel_rfl) rfl #[.agg #[.int .i64 a0_0, .int .i64 a0_1, .bool a0_2, .bool a0_3, .int .i64 a0_4, .int .i64 a0_5, .bool a0_6, .bool a0_7]] rfl (by (try simp only [map_toArray, map_cons, map_nil]); first | done | rfl | (simp only [length_drop, length_take]; rfl)) ?_; (with_reducible refine (spec_l3Normal.calls a0_0 a0_1 a0_2 a0_3 a0_4 a0_5 a0_6 a0_7 t324 t325 t326 t327 t328 t329 t330 t331 _ A18.out).mono ?_); rintro e w103 ⟨rfl, hb⟩; refine ⟨_, rfl, ?_⟩; have n0_ := Aside0.mk (z2q (cy BK320.out) hb); have n1_ := Aside0.mk (z2q (cy BK321.out) hb); have n2_ := Aside0.mk (z8q (ibh HB.out) hb); clear BK320; clear BK321; clear HB; have BK320 := n0_; have BK321 := n1_; have HB := n2_; clear n0_ n1_ n2_; (try clear hb); (try clear hb2); (try clear hk); (try clear hi); have hcz104_0 : w103.cell? ⟨gb320, 0, none⟩ = some (.int .i64 a0_0) := (z0q BK320.out 0).trans rfl; have hcz104_1 : w103.cell? ⟨gb320, 1, none⟩ = some (.int .i64 a0_1) := (z0q BK320.out 1).trans rfl; have hcz104_2 : w103.cell? ⟨gb320, 2, none⟩ = some (.bool a0_2) := (z0q BK320.out 2).trans rfl; have hcz104_3 : w103.cell? ⟨gb320, 3, none⟩ = some (.bool a0_3) := (z0q BK320.out 3).trans rfl; have hcz104_4 : w103.cell? ⟨gb320, 4, none⟩ = some (.int .i64 a0_4) := (z0q BK320.out 4).trans rfl; have hcz104_5 : w103.cell? ⟨gb320, 5, none⟩ = some (.int .i64 a0_5) := (z0q BK320.out 5).trans rfl; have hcz104_6 : w103.cell? ⟨gb320, 6, none⟩ = some (.bool a0_6) := (z0q BK320.out 6).trans rfl; have hcz104_7 : w103.cell? ⟨gb320, 7, none⟩ = some (.bool a0_7) := (z0q BK320.out 7).trans rfl; have hfz104_0 := z1q BK320.out 0; have hfz104_1 := z1q BK320.out 1; have hfz104_2 := z1q BK320.out 2; have hfz104_3 := z1q BK320.out 3; have hfz104_4 := z1q BK320.out 4; have hfz104_5 := z1q BK320.out 5; have hfz104_6 := z1q BK320.out 6; have hfz104_7 := z1q BK320.out 7; have hcz105_0 : w103.cell? ⟨gb321, 0, none⟩ = some (.int .i64 a1_0) := (z0q BK321.out 0).trans rfl; have hcz105_1 : w103.cell? ⟨gb321, 1, none⟩ = some (.int .i64 a1_1) := (z0q BK321.out 1).trans rfl; have hcz105_2 : w103.cell? ⟨gb321, 2, none⟩ = some (.bool a1_2) := (z0q BK321.out 2).trans rfl; have hcz105_3 : w103.cell? ⟨gb321, 3, none⟩ = some (.bool a1_3) := (z0q BK321.out 3).trans rfl; have hcz105_4 : w103.cell? ⟨gb321, 4, none⟩ = some (.int .i64 a1_4) := (z0q BK321.out 4).trans rfl; have hcz105_5 : w103.cell? ⟨gb321, 5, none⟩ = some (.int .i64 a1_5) := (z0q BK321.out 5).trans rfl; have hcz105_6 : w103.cell? ⟨gb321, 6, none⟩ = some (.bool a1_6) := (z0q BK321.out 6).trans rfl; have hcz105_7 : w103.cell? ⟨gb321, 7, none⟩ = some (.bool a1_7) := (z0q BK321.out 7).trans rfl; have hfz105_0 := z1q BK321.out 0; have hfz105_1 := z1q BK321.out 1; have hfz105_2 := z1q BK321.out 2; have hfz105_3 := z1q BK321.out 3; have hfz105_4 := z1q BK321.out 4; have hfz105_5 := z1q BK321.out 5; have hfz105_6 := z1q BK321.out 6; have hfz105_7 := z1q BK321.out 7) | ((with_reducible refine z15q (f := 12) rfl ?_); refine z23q (some 21) rfl rfl Try.func12 (by kernel_rfl) rfl #[.agg #[.int .i64 t324, .int .i64 t325, .bool t326, .bool t327, .int .i64 t328, .int .i64 t329, .bool t330, .bool t331], .agg #[.int .i64 a1_0, .int .i64 a1_1, .bool a1_2, .bool a1_3, .int .i64 a1_4, .int .i64 a1_5, .bool a1_6, .bool a1_7]] rfl (by (try simp only [map_toArray, map_cons, map_nil]); first | done | rfl | (simp only [length_drop, length_take]; rfl)) ?_; (with_reducible refine (spec_Meet.calls kj2 t324 t325 t326 t327 t328 t329 t330 t331 a1_0 a1_1 a1_2 a1_3 a1_4 a1_5 a1_6 a1_7 t332 t333 t334 t335 t336 t337 t338 t339 false _ A19.out).mono ?_); rintro e w106 ⟨rfl, hb⟩; refine ⟨_, rfl, ?_⟩; have n0_ := Aside0.mk (z2q (g := gb320) (o := .cells #[.int .i64 t324, .int .i64 t325, .bool t326, .bool t327, .int .i64 t328, .int .i64 t329, .bool t330, .bool t331] 26 (0, 0)) (by refine cz ?_; refine z6q (cs := #[.int .i64 t324, .int .i64 t325, .bool t326, .bool t327, .int .i64 t328, .int .i64 t329, .bool t330, .bool a0_7]) ?_ 7 _ rfl; refine cz ?_; refine z6q (cs := #[.int .i64 t324, .int .i64 t325, .bool t326, .bool t327, .int .i64 t328, .int .i64 t329, .bool a0_6, .bool a0_7]) ?_ 6 _ rfl; refine cz ?_; refine z6q (cs := #[.int .i64 t324, .int .i64 t325, .bool t326, .bool t327, .int .i64 t328, .int .i64 a0_5, .bool a0_6, .bool a0_7]) ?_ 5 _ rfl; refine cz ?_; refine z6q (cs := #[.int .i64 t324, .int .i64 t325, .bool t326, .bool t327, .int .i64 a0_4, .int .i64 a0_5, .bool a0_6, .bool a0_7]) ?_ 4 _ rfl; refine cz ?_; refine z6q (cs := #[.int .i64 t324, .int .i64 t325, .bool t326, .bool a0_3, .int .i64 a0_4, .int .i64 a0_5, .bool a0_6, .bool a0_7]) ?_ 3 _ rfl; refine cz ?_; refine z6q (cs := #[.int .i64 t324, .int .i64 t325, .bool a0_2, .bool a0_3, .int .i64 a0_4, .int .i64 a0_5, .bool a0_6, .bool a0_7]) ?_ 2 _ rfl; refine cz ?_; refine z6q (cs := #[.int .i64 t324, .int .i64 a0_1, .bool a0_2, .bool a0_3, .int .i64 a0_4, .int .i64 a0_5, .bool a0_6, .bool a0_7]) ?_ 1 _ rfl; refine cz ?_; refine z6q (cs := #[.int .i64 a0_0, .int .i64 a0_1, .bool a0_2, .bool a0_3, .int .i64 a0_4, .int .i64 a0_5, .bool a0_6, .bool a0_7]) ?_ 0 _ rfl; exact cy BK320.out) hb); have n1_ := Aside0.mk (z2q (cy BK321.out) hb); have n2_ := Aside0.mk (z8q (ibh HB.out) hb); clear BK320; clear BK321; clear HB; have BK320 := n0_; have BK321 := n1_; have HB := n2_; clear n0_ n1_ n2_; (try clear hb); (try clear hb2); (try clear hk); (try clear hi)) | ((with_reducible refine z22q (N := 5) rfl ?_); refine z20q ?hg (N := 5) ?hd (cs := #[.int .i64 0, .int .i64 0, .bool false, .bool false, .int .i64 0, .int .i64 0, .bool false, .bool false]) (t := 26) ?hr ?_; (case hd => rfl); (case hg => rfl); (case hr => first | (go_simp; done) | (go_simp; rfl)); intro gb341 hg w107 hbox hb; have n0_ := Aside0.mk (z2q (cy BK320.out) hb); have n1_ := Aside0.mk (z2q (cy BK321.out) hb); have n2_ := Aside0.mk (z8q (ibh HB.out) hb); have n3_ := Aside0.mk (hbox); have n4_ := Aside0.mk ((by rw [hg]; exact (z13q (ibh HB.out)) : w.heap.size ≤ gb341)); have n5_ := Aside0.mk ((by rw [hg]; exact (z13q (ibh HB.out)) : w.heap.size ≤ gb341)); have n6_ := Aside0.mk ((by rw [hg]; exact Nat.ne_of_lt (z14q (cy BK320.out)) : gb320 ≠ gb341)); have n7_ := Aside0.mk ((by rw [hg]; exact Nat.ne_of_gt (z14q (cy BK320.out)) : gb341 ≠ gb320)); have n8_ := Aside0.mk ((by rw [hg]; exact Nat.ne_of_lt (z14q (cy BK321.out)) : gb321 ≠ gb341)); have n9_ := Aside0.mk ((by rw [hg]; exact Nat.ne_of_gt (z14q (cy BK321.out)) : gb341 ≠ gb321)); clear BK320; clear BK321; clear HB; have BK320 := n0_; have BK321 := n1_; have HB := n2_; have BK341 := n3_; have GW341 := n4_; have GE341 := n5_; have NB320_341 := n6_; have NB341_320 := n7_; have NB321_341 := n8_; have NB341_321 := n9_; clear n0_ n1_ n2_ n3_ n4_ n5_ n6_ n7_ n8_ n9_; clear hb hbox hg; have hnb108 := NB341_320.out; have hnc108 := NB320_341.out; have hnb109 := NB341_321.out; have hnc109 := NB321_341.out; have hcz110_0 : w107.cell? ⟨gb341, 0, none⟩ = some (.int .i64 0) := (z0q BK341.out 0).trans rfl; have hcz110_1 : w107.cell? ⟨gb341, 1, none⟩ = some (.int .i64 0) := (z0q BK341.out 1).trans rfl; have hcz110_2 : w107.cell? ⟨gb341, 2, none⟩ = some (.bool false) := (z0q BK341.out 2).trans rfl; have hcz110_3 : w107.cell? ⟨gb341, 3, none⟩ = some (.bool false) := (z0q BK341.out 3).trans rfl; have hcz110_4 : w107.cell? ⟨gb341, 4, none⟩ = some (.int .i64 0) := (z0q BK341.out 4).trans rfl; have hcz110_5 : w107.cell? ⟨gb341, 5, none⟩ = some (.int .i64 0) := (z0q BK341.out 5).trans rfl; have hcz110_6 : w107.cell? ⟨gb341, 6, none⟩ = some (.bool false) := (z0q BK341.out 6).trans rfl; have hcz110_7 : w107.cell? ⟨gb341, 7, none⟩ = some (.bool false) := (z0q BK341.out 7).trans rfl; have hfz110_0 := z1q BK341.out 0; have hfz110_1 := z1q BK341.out 1; have hfz110_2 := z1q BK341.out 2; have hfz110_3 := z1q BK341.out 3; have hfz110_4 := z1q BK341.out 4; have hfz110_5 := z1q BK341.out 5; have hfz110_6 := z1q BK341.out 6; have hfz110_7 := z1q BK341.out 7; have hcz111_0 : w107.cell? ⟨gb320, 0, none⟩ = some (.int .i64 t324) := (z0q BK320.out 0).trans rfl; have hcz111_1 : w107.cell? ⟨gb320, 1, none⟩ = some (.int .i64 t325) := (z0q BK320.out 1).trans rfl; have hcz111_2 : w107.cell? ⟨gb320, 2, none⟩ = some (.bool t326) := (z0q BK320.out 2).trans rfl; have hcz111_3 : w107.cell? ⟨gb320, 3, none⟩ = some (.bool t327) := (z0q BK320.out 3).trans rfl; have hcz111_4 : w107.cell? ⟨gb320, 4, none⟩ = some (.int .i64 t328) := (z0q BK320.out 4).trans rfl; have hcz111_5 : w107.cell? ⟨gb320, 5, none⟩ = some (.int .i64 t329) := (z0q BK320.out 5).trans rfl; have hcz111_6 : w107.cell? ⟨gb320, 6, none⟩ = some (.bool t330) := (z0q BK320.out 6).trans rfl; have hcz111_7 : w107.cell? ⟨gb320, 7, none⟩ = some (.bool t331) := (z0q BK320.out 7).trans rfl; have hfz111_0 := z1q BK320.out 0; have hfz111_1 := z1q BK320.out 1; have hfz111_2 := z1q BK320.out 2; have hfz111_3 := z1q BK320.out 3; have hfz111_4 := z1q BK320.out 4; have hfz111_5 := z1q BK320.out 5; have hfz111_6 := z1q BK320.out 6; have hfz111_7 := z1q BK320.out 7) | ((with_reducible refine z15q (f := 21) rfl ?_); refine z23q (some 38) rfl rfl Try.func21 (by kernel_rfl) rfl #[.int .i64 t324, .int .i64 t325, .int .i64 t328, .int .i64 t329] rfl (by (try simp only [map_toArray, map_cons, map_nil]); first | done | rfl | (simp only [length_drop, length_take]; rfl)) ?_; (with_reducible refine (spec_l3Area.calls t324 t325 t328 t329 t342 t343 t344 t345 t346 t347 t348 t349 _ A100.out).mono ?_); rintro e w112 ⟨rfl, hb⟩; refine ⟨_, rfl, ?_⟩; have n0_ := Aside0.mk (z2q (cy BK320.out) hb); have n1_ := Aside0.mk (z2q (cy BK321.out) hb); have n2_ := Aside0.mk (z2q (g := gb341) (o := .cells #[.int .i64 t332, .int .i64 t333, .bool t334, .bool t335, .int .i64 t336, .int .i64 t337, .bool t338, .bool t339] 26 (0, 0)) (by refine cz ?_; refine z6q (cs := #[.int .i64 t332, .int .i64 t333, .bool t334, .bool t335, .int .i64 t336, .int .i64 t337, .bool t338, .bool false]) ?_ 7 _ rfl; refine cz ?_; refine z6q (cs := #[.int .i64 t332, .int .i64 t333, .bool t334, .bool t335, .int .i64 t336, .int .i64 t337, .bool false, .bool false]) ?_ 6 _ rfl; refine cz ?_; refine z6q (cs := #[.int .i64 t332, .int .i64 t333, .bool t334, .bool t335, .int .i64 t336, .int .i64 0, .bool false, .bool false]) ?_ 5 _ rfl; refine cz ?_; refine z6q (cs := #[.int .i64 t332, .int .i64 t333, .bool t334, .bool t335, .int .i64 0, .int .i64 0, .bool false, .bool false]) ?_ 4 _ rfl; refine cz ?_; refine z6q (cs := #[.int .i64 t332, .int .i64 t333, .bool t334, .bool false, .int .i64 0, .int .i64 0, .bool false, .bool false]) ?_ 3 _ rfl; refine cz ?_; refine z6q (cs := #[.int .i64 t332, .int .i64 t333, .bool false, .bool false, .int .i64 0, .int .i64 0, .bool false, .bool false]) ?_ 2 _ rfl; refine cz ?_; refine z6q (cs := #[.int .i64 t332, .int .i64 0, .bool false, .bool false, .int .i64 0, .int .i64 0, .bool false, .bool false]) ?_ 1 _ rfl; refine cz ?_; refine z6q (cs := #[.int .i64 0, .int .i64 0, .bool false, .bool false, .int .i64 0, .int .i64 0, .bool false, .bool false]) ?_ 0 _ rfl; exact cy BK341.out) hb); have n3_ := Aside0.mk (z8q (ibh HB.out) hb); clear BK320; clear BK321; clear BK341; clear HB; have BK320 := n0_; have BK321 := n1_; have BK341 := n2_; have HB := n3_; clear n0_ n1_ n2_ n3_; (try clear hb); (try clear hb2); (try clear hk); (try clear hi)) | ((with_reducible refine z22q (N := 39) rfl ?_); refine Kd.R_lit k26 _ 26 ?hg (N := 39) ?hd (xs := ([(⟨(⟨t342, t343, t344, t345⟩ : S24), (⟨t346, t347, t348, t349⟩ : S24)⟩ : S26)] : List (S26))) (inner := [.int .i64 t342, .int .i64 t343, .bool t344, .bool t345, .int .i64 t346, .int .i64 t347, .bool t348, .bool t349]) (ok := fun _ => True) (okp := fun _ => True) ?hr ?hp (fun _ hk => hk) trivial (Below.refl _ _) (Nat.le_refl _) (by simp) ?_; (case hd => rfl); (case hg => rfl); (case hr => first | (go_simp; done) | (go_simp; rfl)); (case hp => exact (Reps.c8 (show Kd.M k26 _ _ _ (⟨(⟨t342, t343, t344, t345⟩ : S24), (⟨t346, t347, t348, t349⟩ : S24)⟩ : S26) [.int .i64 t342, .int .i64 t343, .bool t344, .bool t345, .int .i64 t346, .int .i64 t347, .bool t348, .bool t349] from (k26_mkM _ _ _ (⟨(⟨t342, t343, t344, t345⟩ : S24), (⟨t346, t347, t348, t349⟩ : S24)⟩ : S26) )) (Reps.none _ _))); intro v351 w113 ho114 hb hg_ hnew_; clear hg_ hnew_; (first | rw [← Ny350.out] at ho114 | (simp only [Int.reduceToNat] at ho114; rw [← Ny350.out] at ho114)); have n0_ := Aside0.mk (Kd.R_lower (Kd.R_newB (Kd.R_newB (Kd.R_newB ho114 (g := gb320) (o := .cells #[.int .i64 t324, .int .i64 t325, .bool t326, .bool t327, .int .i64 t328, .int .i64 t329, .bool t330, .bool t331] 26 (0, 0)) (cy BK320.out)) (g := gb321) (o := .cells #[.int .i64 a1_0, .int .i64 a1_1, .bool a1_2, .bool a1_3, .int .i64 a1_4, .int .i64 a1_5, .bool a1_6, .bool a1_7] 26 (0, 0)) (cy BK321.out)) (g := gb341) (o := .cells #[.int .i64 t332, .int .i64 t333, .bool t334, .bool t335, .int .i64 t336, .int .i64 t337, .bool t338, .bool t339] 26 (0, 0)) (cy BK341.out)) (z13q (ibh HB.out))); have n1_ := Aside0.mk (z2q (cy BK320.out) hb); have n2_ := Aside0.mk (z2q (cy BK321.out) hb); have n3_ := Aside0.mk (z2q (cy BK341.out) hb); have n4_ := Aside0.mk (z8q (ibh HB.out) hb); clear BK320; clear BK321; clear BK341; clear HB; have HO352 := n0_; have BK320 := n1_; have BK321 := n2_; have BK341 := n3_; have HB := n4_; clear n0_ n1_ n2_ n3_ n4_; clear hb ho114))
     go_ret
     exact ⟨_, by first | rfl | (simp [errW_none, errW_some] <;> rfl) | (simp [*, errW_none, errW_some] <;> rfl), by (with_reducible repeat (first | apply Kd.R_alloc | apply Kd.R_drewN | apply Kd.R_drew)); exact Kd.R_mono HO352.out (fun _ hk => trivial), by repeat (first | (with_reducible first | exact HB.out | apply z7q | apply z5q | apply z12q | refine z3q ?_ GE320.out | refine z3q ?_ GE321.out | refine z3q ?_ GE341.out) | exact HB.out)⟩

end Go.Proofs.Ytjjignjjnnmajaa.PFnAreas
