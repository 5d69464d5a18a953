/- Functions of the program as Lean functions, and proofs that the Go code comes to their answers: for the law FnExactWithout; made out of the print by a program of mine (compact.py). No conditions but each theorem's own. -/
import Derived.Test.YtojfkjggpdlngaaMFnExactWithouta0
import Derived.Test.YtojfkjggpdlngaaMFnExactWithouta2
import Derived.Test.YtojfkjggpdlngaaMFnExactWithouta3
namespace Go.Proofs.Ytojfkjggpdlngaa.PFnExactWithout
open Go.RowKit Go.Proofs.YtojfkjggpdlngaaW.PrintWords Go.Proofs.YtojfkjggpdlngaaW.PrintLast Go.Proofs.YtojfkjggpdlngaaW.PrintMore
attribute [local go_sem] max2_int min2_int max_two min_two max_three min_three max_four min_four   -- for this text's walks alone
set_option linter.unusedVariables false
set_option linter.unusedSimpArgs false

set_option maxHeartbeats 8000000 in
set_option maxRecDepth 100000 in
theorem spec_Without.calls_p1 (k : Nat) (a0_0 : Int) (a0_1 : Int) (a0_2 : Bool) (a0_3 : Bool) (a0_4 : Int) (a0_5 : Int) (a0_6 : Bool) (a0_7 : Bool) (a1_0 : Int) (a1_1 : Int) (a1_2 : Bool) (a1_3 : Bool) (a1_4 : Int) (a1_5 : Int) (a1_6 : Bool) (a1_7 : Bool) (r : List (S33)) (w : World) (H : ((spec_GoodArea.f a0_0 a0_1 a0_2 a0_3 a0_4 a0_5 a0_6 a0_7).bind fun t194 => (if t194 = true then ((spec_GoodArea.f a1_0 a1_1 a1_2 a1_3 a1_4 a1_5 a1_6 a1_7).bind fun t195 => (spec_Without.j0 k (!t195) a0_0 a0_1 a0_2 a0_3 a0_4 a0_5 a0_6 a0_7 a1_0 a1_1 a1_2 a1_3 a1_4 a1_5 a1_6 a1_7)) else (spec_Without.j0 k true a0_0 a0_1 a0_2 a0_3 a0_4 a0_5 a0_6 a0_7 a1_0 a1_1 a1_2 a1_3 a1_4 a1_5 a1_6 a1_7))) = some r) :
    Calls Try.prog 16 #[.agg #[.int .i64 a0_0, .int .i64 a0_1, .bool a0_2, .bool a0_3, .int .i64 a0_4, .int .i64 a0_5, .bool a0_6, .bool a0_7], .agg #[.int .i64 a1_0, .int .i64 a1_1, .bool a1_2, .bool a1_3, .int .i64 a1_4, .int .i64 a1_5, .bool a1_6, .bool a1_7]] w fun e w' => ∃ v0_ : Value, e = .returned (v0_) ∧ Kd.R k33 33 w' w.heap.size (fun _ => True) v0_ r ∧ Below w.heap.size w w' := by
  have hu33 := Try.underlying33
  have HB := Aside0.mk (Below.refl w.heap.size w)
  have HC3 := Aside0.mk H
  clear H
  go_enter Try.func16, Try.ntmps16
  go_upto_region 1 with (first | ((with_reducible refine gate_dst (N := 2) rfl ?_); refine box_event ?hg (N := 2) ?hd (cs := #[.int .i64 a0_0, .int .i64 a0_1, .bool a0_2, .bool a0_3, .int .i64 a0_4, .int .i64 a0_5, .bool a0_6, .bool a0_7]) (t := 33) ?hr ?_; (case hd => rfl); (case hg => rfl); (case hr => first | (go_simp; done) | (go_simp; rfl)); intro gb192 hg w4 hbox hb; have n0_ := Aside0.mk (below_step (by repeat (first | (with_reducible first | exact HB.out | apply below_alloc | apply pw_below_drewN | apply below_drew1) | exact HB.out)) hb); have n1_ := Aside0.mk (hbox); have n2_ := Aside0.mk ((by rw [hg]; exact (below_size (by repeat (first | (with_reducible first | exact HB.out | apply below_alloc | apply pw_below_drewN | apply below_drew1) | exact HB.out))) : w.heap.size ≤ gb192)); have n3_ := Aside0.mk ((by rw [hg]; exact (below_size (by repeat (first | (with_reducible first | exact HB.out | apply below_alloc | apply pw_below_drewN | apply below_drew1) | exact HB.out))) : w.heap.size ≤ gb192)); clear HB; have HB := n0_; have BK192 := n1_; have GW192 := n2_; have GE192 := n3_; clear n0_ n1_ n2_ n3_; clear hb hbox hg) | ((with_reducible refine gate_dst (N := 3) rfl ?_); refine box_event ?hg (N := 3) ?hd (cs := #[.int .i64 a1_0, .int .i64 a1_1, .bool a1_2, .bool a1_3, .int .i64 a1_4, .int .i64 a1_5, .bool a1_6, .bool a1_7]) (t := 33) ?hr ?_; (case hd => rfl); (case hg => rfl); (case hr => first | (go_simp; done) | (go_simp; rfl)); intro gb193 hg w5 hbox hb; have n0_ := Aside0.mk (blk_below (g := gb192) (o := .cells #[.int .i64 a0_0, .int .i64 a0_1, .bool a0_2, .bool a0_3, .int .i64 a0_4, .int .i64 a0_5, .bool a0_6, .bool a0_7] 33 (0, 0)) (by (with_reducible repeat (first | refine blk_drewN ?_ _ | refine blk_drew ?_ | refine blk_alloc ?_ _)); exact BK192.out) hb); have n1_ := Aside0.mk (below_step (by repeat (first | (with_reducible first | exact HB.out | apply below_alloc | apply pw_below_drewN | apply below_drew1 | refine below_set ?_ GE192.out) | exact HB.out)) hb); have n2_ := Aside0.mk (hbox); have n3_ := Aside0.mk ((by rw [hg]; exact (below_size (by repeat (first | (with_reducible first | exact HB.out | apply below_alloc | apply pw_below_drewN | apply below_drew1 | refine below_set ?_ GE192.out) | exact HB.out))) : w.heap.size ≤ gb193)); have n4_ := Aside0.mk ((by rw [hg]; exact (below_size (by repeat (first | (with_reducible first | exact HB.out | apply below_alloc | apply pw_below_drewN | apply below_drew1 | refine below_set ?_ GE192.out) | exact HB.out))) : w.heap.size ≤ gb193)); have n5_ := Aside0.mk ((by rw [hg]; exact Nat.ne_of_lt (blk_lt (g := gb192) (o := .cells #[.int .i64 a0_0, .int .i64 a0_1, .bool a0_2, .bool a0_3, .int .i64 a0_4, .int .i64 a0_5, .bool a0_6, .bool a0_7] 33 (0, 0)) (by (with_reducible repeat (first | refine blk_drewN ?_ _ | refine blk_drew ?_ | refine blk_alloc ?_ _)); exact BK192.out)) : gb192 ≠ gb193)); have n6_ := Aside0.mk ((by rw [hg]; exact Nat.ne_of_gt (blk_lt (g := gb192) (o := .cells #[.int .i64 a0_0, .int .i64 a0_1, .bool a0_2, .bool a0_3, .int .i64 a0_4, .int .i64 a0_5, .bool a0_6, .bool a0_7] 33 (0, 0)) (by (with_reducible repeat (first | refine blk_drewN ?_ _ | refine blk_drew ?_ | refine blk_alloc ?_ _)); exact BK192.out)) : gb193 ≠ gb192)); clear BK192; clear HB; have BK192 := n0_; have HB := n1_; have BK193 := n2_; have GW193 := n3_; have GE193 := n4_; have NB192_193 := n5_; have NB193_192 := n6_; clear n0_ n1_ n2_ n3_ n4_ n5_ n6_; clear hb hbox hg))
  (try simp only [Act.put, List.setIfInBounds_toArray, List.set_cons_zero, List.set_cons_succ])
  go_cut [15] (fun v15 wc => ∃ (kq : Nat) (x15_2 : Bool), v15 = .bool x15_2 ∧ Aside0 (spec_Without.j0 kq x15_2 a0_0 a0_1 a0_2 a0_3 a0_4 a0_5 a0_6 a0_7 a1_0 a1_1 a1_2 a1_3 a1_4 a1_5 a1_6 a1_7 = some r) ∧ Aside0 (kq ≤ k) ∧ Aside0 (wc.heap[gb192]? = some (.cells #[.int .i64 a0_0, .int .i64 a0_1, .bool a0_2, .bool a0_3, .int .i64 a0_4, .int .i64 a0_5, .bool a0_6, .bool a0_7] 33 (0, 0))) ∧ Aside0 (wc.heap[gb193]? = some (.cells #[.int .i64 a1_0, .int .i64 a1_1, .bool a1_2, .bool a1_3, .int .i64 a1_4, .int .i64 a1_5, .bool a1_6, .bool a1_7] 33 (0, 0))) ∧ Aside0 (Below w.heap.size w wc))
  case first =>
    have H := HC3.out
    clear HC3
    replace H := Option.bind_eq_some_iff.mp H
    obtain ⟨t194, A60, H⟩ := H
    replace H : (if t194 = true then ((spec_GoodArea.f a1_0 a1_1 a1_2 a1_3 a1_4 a1_5 a1_6 a1_7).bind fun t195 => (spec_Without.j0 k (!t195) a0_0 a0_1 a0_2 a0_3 a0_4 a0_5 a0_6 a0_7 a1_0 a1_1 a1_2 a1_3 a1_4 a1_5 a1_6 a1_7)) else (spec_Without.j0 k true a0_0 a0_1 a0_2 a0_3 a0_4 a0_5 a0_6 a0_7 a1_0 a1_1 a1_2 a1_3 a1_4 a1_5 a1_6 a1_7)) = some r := H
    have A6 := Aside0.mk A60
    clear A60
    by_cases c7 : t194 = true
    · subst c7
      have H1 : ((spec_GoodArea.f a1_0 a1_1 a1_2 a1_3 a1_4 a1_5 a1_6 a1_7).bind fun t195 => (spec_Without.j0 k (!t195) a0_0 a0_1 a0_2 a0_3 a0_4 a0_5 a0_6 a0_7 a1_0 a1_1 a1_2 a1_3 a1_4 a1_5 a1_6 a1_7)) = some r := by rw [if_pos rfl] at H; exact H
      clear H
      have H := H1
      clear H1
      replace H := Option.bind_eq_some_iff.mp H
      obtain ⟨t195, A80, H⟩ := H
      replace H : (spec_Without.j0 k (!t195) a0_0 a0_1 a0_2 a0_3 a0_4 a0_5 a0_6 a0_7 a1_0 a1_1 a1_2 a1_3 a1_4 a1_5 a1_6 a1_7) = some r := H
      have A8 := Aside0.mk A80
      clear A80
      have H' := Aside0.mk H
      clear H
      have hnb9 := NB192_193.out
      have hnc9 := NB193_192.out
      have hcz10_0 : w5.cell? ⟨gb192, 0, none⟩ = some (.int .i64 a0_0) := (blk_cell BK192.out 0).trans rfl
      have hcz10_1 : w5.cell? ⟨gb192, 1, none⟩ = some (.int .i64 a0_1) := (blk_cell BK192.out 1).trans rfl
      have hcz10_2 : w5.cell? ⟨gb192, 2, none⟩ = some (.bool a0_2) := (blk_cell BK192.out 2).trans rfl
      have hcz10_3 : w5.cell? ⟨gb192, 3, none⟩ = some (.bool a0_3) := (blk_cell BK192.out 3).trans rfl
      have hcz10_4 : w5.cell? ⟨gb192, 4, none⟩ = some (.int .i64 a0_4) := (blk_cell BK192.out 4).trans rfl
      have hcz10_5 : w5.cell? ⟨gb192, 5, none⟩ = some (.int .i64 a0_5) := (blk_cell BK192.out 5).trans rfl
      have hcz10_6 : w5.cell? ⟨gb192, 6, none⟩ = some (.bool a0_6) := (blk_cell BK192.out 6).trans rfl
      have hcz10_7 : w5.cell? ⟨gb192, 7, none⟩ = some (.bool a0_7) := (blk_cell BK192.out 7).trans rfl
      have hfz10_0 := blk_frozen BK192.out 0
      have hfz10_1 := blk_frozen BK192.out 1
      have hfz10_2 := blk_frozen BK192.out 2
      have hfz10_3 := blk_frozen BK192.out 3
      have hfz10_4 := blk_frozen BK192.out 4
      have hfz10_5 := blk_frozen BK192.out 5
      have hfz10_6 := blk_frozen BK192.out 6
      have hfz10_7 := blk_frozen BK192.out 7
      go_wp2_with (first | ((with_reducible refine gate_callee (f := 17) rfl ?_); refine goesL_ (some 9) rfl rfl Try.func17 (by kernel_rfl) rfl #[.agg #[.int .i64 a0_0, .int .i64 a0_1, .bool a0_2, .bool a0_3, .int .i64 a0_4, .int .i64 a0_5, .bool a0_6, .bool a0_7]] rfl (by (try simp only [List.map_toArray, List.map_cons, List.map_nil]); first | done | rfl | (simp only [List.length_drop, List.length_take]; rfl)) ?_; (with_reducible refine (spec_GoodArea.calls a0_0 a0_1 a0_2 a0_3 a0_4 a0_5 a0_6 a0_7 true _ A6.out).mono ?_); rintro e w11 ⟨rfl, hb⟩; refine ⟨_, rfl, ?_⟩; have n0_ := Aside0.mk (blk_below (g := gb192) (o := .cells #[.int .i64 a0_0, .int .i64 a0_1, .bool a0_2, .bool a0_3, .int .i64 a0_4, .int .i64 a0_5, .bool a0_6, .bool a0_7] 33 (0, 0)) (by (with_reducible repeat (first | refine blk_drewN ?_ _ | refine blk_drew ?_ | refine blk_alloc ?_ _)); exact BK192.out) hb); have n1_ := Aside0.mk (blk_below (g := gb193) (o := .cells #[.int .i64 a1_0, .int .i64 a1_1, .bool a1_2, .bool a1_3, .int .i64 a1_4, .int .i64 a1_5, .bool a1_6, .bool a1_7] 33 (0, 0)) (by (with_reducible repeat (first | refine blk_drewN ?_ _ | refine blk_drew ?_ | refine blk_alloc ?_ _)); exact BK193.out) hb); have n2_ := Aside0.mk (below_step (by repeat (first | (with_reducible first | exact HB.out | apply below_alloc | apply pw_below_drewN | apply below_drew1 | refine below_set ?_ GE192.out | refine below_set ?_ GE193.out) | exact HB.out)) hb); clear BK192; clear BK193; clear HB; have BK192 := n0_; have BK193 := n1_; have HB := n2_; clear n0_ n1_ n2_; (try clear hb); (try clear hb2); (try clear hk); (try clear hi); have hcz12_0 : w11.cell? ⟨gb193, 0, none⟩ = some (.int .i64 a1_0) := (blk_cell BK193.out 0).trans rfl; have hcz12_1 : w11.cell? ⟨gb193, 1, none⟩ = some (.int .i64 a1_1) := (blk_cell BK193.out 1).trans rfl; have hcz12_2 : w11.cell? ⟨gb193, 2, none⟩ = some (.bool a1_2) := (blk_cell BK193.out 2).trans rfl; have hcz12_3 : w11.cell? ⟨gb193, 3, none⟩ = some (.bool a1_3) := (blk_cell BK193.out 3).trans rfl; have hcz12_4 : w11.cell? ⟨gb193, 4, none⟩ = some (.int .i64 a1_4) := (blk_cell BK193.out 4).trans rfl; have hcz12_5 : w11.cell? ⟨gb193, 5, none⟩ = some (.int .i64 a1_5) := (blk_cell BK193.out 5).trans rfl; have hcz12_6 : w11.cell? ⟨gb193, 6, none⟩ = some (.bool a1_6) := (blk_cell BK193.out 6).trans rfl; have hcz12_7 : w11.cell? ⟨gb193, 7, none⟩ = some (.bool a1_7) := (blk_cell BK193.out 7).trans rfl; have hfz12_0 := blk_frozen BK193.out 0; have hfz12_1 := blk_frozen BK193.out 1; have hfz12_2 := blk_frozen BK193.out 2; have hfz12_3 := blk_frozen BK193.out 3; have hfz12_4 := blk_frozen BK193.out 4; have hfz12_5 := blk_frozen BK193.out 5; have hfz12_6 := blk_frozen BK193.out 6; have hfz12_7 := blk_frozen BK193.out 7) | (go_at_call 17; (with_reducible refine (spec_GoodArea.calls a1_0 a1_1 a1_2 a1_3 a1_4 a1_5 a1_6 a1_7 t195 _ A8.out).mono ?_); rintro e w13 ⟨rfl, hb⟩; have n0_ := Aside0.mk (blk_below (g := gb192) (o := .cells #[.int .i64 a0_0, .int .i64 a0_1, .bool a0_2, .bool a0_3, .int .i64 a0_4, .int .i64 a0_5, .bool a0_6, .bool a0_7] 33 (0, 0)) (by (with_reducible repeat (first | refine blk_drewN ?_ _ | refine blk_drew ?_ | refine blk_alloc ?_ _)); exact BK192.out) hb); have n1_ := Aside0.mk (blk_below (g := gb193) (o := .cells #[.int .i64 a1_0, .int .i64 a1_1, .bool a1_2, .bool a1_3, .int .i64 a1_4, .int .i64 a1_5, .bool a1_6, .bool a1_7] 33 (0, 0)) (by (with_reducible repeat (first | refine blk_drewN ?_ _ | refine blk_drew ?_ | refine blk_alloc ?_ _)); exact BK193.out) hb); have n2_ := Aside0.mk (below_step (by repeat (first | (with_reducible first | exact HB.out | apply below_alloc | apply pw_below_drewN | apply below_drew1 | refine below_set ?_ GE192.out | refine below_set ?_ GE193.out) | exact HB.out)) hb); clear BK192; clear BK193; clear HB; have BK192 := n0_; have BK193 := n1_; have HB := n2_; clear n0_ n1_ n2_; (try clear hb); (try clear hb2); (try clear hk); (try clear hi)))
      go_meet
      case rel => exact ⟨_, (!t195), (by first | rfl | (simp; done) | (simp [*]; done) | (simp; unfold wrap64; omega)), H', ⟨by first | omega | exact Nat.le_refl _⟩, ⟨by (with_reducible repeat (first | refine blk_drewN ?_ _ | refine blk_drew ?_ | refine blk_alloc ?_ _)); exact BK192.out⟩, ⟨by (with_reducible repeat (first | refine blk_drewN ?_ _ | refine blk_drew ?_ | refine blk_alloc ?_ _)); exact BK193.out⟩, ⟨by repeat (first | (with_reducible first | exact HB.out | apply below_alloc | apply pw_below_drewN | apply below_drew1 | refine below_set ?_ GE192.out | refine below_set ?_ GE193.out) | exact HB.out)⟩⟩
    · replace c7 := Bool.eq_false_iff.mpr c7
      subst c7
      have H1 : (spec_Without.j0 k true a0_0 a0_1 a0_2 a0_3 a0_4 a0_5 a0_6 a0_7 a1_0 a1_1 a1_2 a1_3 a1_4 a1_5 a1_6 a1_7) = some r := by rw [if_neg (show ¬ (false = true) by decide)] at H; exact H
      clear H
      have H := H1
      clear H1
      have H' := Aside0.mk H
      clear H
      have hnb14 := NB192_193.out
      have hnc14 := NB193_192.out
      have hcz15_0 : w5.cell? ⟨gb192, 0, none⟩ = some (.int .i64 a0_0) := (blk_cell BK192.out 0).trans rfl
      have hcz15_1 : w5.cell? ⟨gb192, 1, none⟩ = some (.int .i64 a0_1) := (blk_cell BK192.out 1).trans rfl
      have hcz15_2 : w5.cell? ⟨gb192, 2, none⟩ = some (.bool a0_2) := (blk_cell BK192.out 2).trans rfl
      have hcz15_3 : w5.cell? ⟨gb192, 3, none⟩ = some (.bool a0_3) := (blk_cell BK192.out 3).trans rfl
      have hcz15_4 : w5.cell? ⟨gb192, 4, none⟩ = some (.int .i64 a0_4) := (blk_cell BK192.out 4).trans rfl
      have hcz15_5 : w5.cell? ⟨gb192, 5, none⟩ = some (.int .i64 a0_5) := (blk_cell BK192.out 5).trans rfl
      have hcz15_6 : w5.cell? ⟨gb192, 6, none⟩ = some (.bool a0_6) := (blk_cell BK192.out 6).trans rfl
      have hcz15_7 : w5.cell? ⟨gb192, 7, none⟩ = some (.bool a0_7) := (blk_cell BK192.out 7).trans rfl
      have hfz15_0 := blk_frozen BK192.out 0
      have hfz15_1 := blk_frozen BK192.out 1
      have hfz15_2 := blk_frozen BK192.out 2
      have hfz15_3 := blk_frozen BK192.out 3
      have hfz15_4 := blk_frozen BK192.out 4
      have hfz15_5 := blk_frozen BK192.out 5
      have hfz15_6 := blk_frozen BK192.out 6
      have hfz15_7 := blk_frozen BK192.out 7
      go_wp2_with (first | ((with_reducible refine gate_callee (f := 17) rfl ?_); refine goesL_ (some 9) rfl rfl Try.func17 (by kernel_rfl) rfl #[.agg #[.int .i64 a0_0, .int .i64 a0_1, .bool a0_2, .bool a0_3, .int .i64 a0_4, .int .i64 a0_5, .bool a0_6, .bool a0_7]] rfl (by (try simp only [List.map_toArray, List.map_cons, List.map_nil]); first | done | rfl | (simp only [List.length_drop, List.length_take]; rfl)) ?_; (with_reducible refine (spec_GoodArea.calls a0_0 a0_1 a0_2 a0_3 a0_4 a0_5 a0_6 a0_7 false _ A6.out).mono ?_); rintro e w16 ⟨rfl, hb⟩; refine ⟨_, rfl, ?_⟩; have n0_ := Aside0.mk (blk_below (g := gb192) (o := .cells #[.int .i64 a0_0, .int .i64 a0_1, .bool a0_2, .bool a0_3, .int .i64 a0_4, .int .i64 a0_5, .bool a0_6, .bool a0_7] 33 (0, 0)) (by (with_reducible repeat (first | refine blk_drewN ?_ _ | refine blk_drew ?_ | refine blk_alloc ?_ _)); exact BK192.out) hb); have n1_ := Aside0.mk (blk_below (g := gb193) (o := .cells #[.int .i64 a1_0, .int .i64 a1_1, .bool a1_2, .bool a1_3, .int .i64 a1_4, .int .i64 a1_5, .bool a1_6, .bool a1_7] 33 (0, 0)) (by (with_reducible repeat (first | refine blk_drewN ?_ _ | refine blk_drew ?_ | refine blk_alloc ?_ _)); exact BK193.out) hb); have n2_ := Aside0.mk (below_step (by repeat (first | (with_reducible first | exact HB.out | apply below_alloc | apply pw_below_drewN | apply below_drew1 | refine below_set ?_ GE192.out | refine below_set ?_ GE193.out) | exact HB.out)) hb); clear BK192; clear BK193; clear HB; have BK192 := n0_; have BK193 := n1_; have HB := n2_; clear n0_ n1_ n2_; (try clear hb); (try clear hb2); (try clear hk); (try clear hi)))
      go_meet
      case rel => exact ⟨_, (true), (by first | rfl | (simp; done) | (simp [*]; done) | (simp; unfold wrap64; omega)), H', ⟨by first | omega | exact Nat.le_refl _⟩, ⟨by (with_reducible repeat (first | refine blk_drewN ?_ _ | refine blk_drew ?_ | refine blk_alloc ?_ _)); exact BK192.out⟩, ⟨by (with_reducible repeat (first | refine blk_drewN ?_ _ | refine blk_drew ?_ | refine blk_alloc ?_ _)); exact BK193.out⟩, ⟨by repeat (first | (with_reducible first | exact HB.out | apply below_alloc | apply pw_below_drewN | apply below_drew1 | refine below_set ?_ GE192.out | refine below_set ?_ GE193.out) | exact HB.out)⟩⟩
  case rest =>
    clear HC3
    try clear c1
    try clear p2
    try clear c7
    try clear c9
    try clear c14
    try clear c16
    try clear hcz10_0
    try clear hcz10_1
    try clear hcz10_2
    try clear hcz10_3
    try clear hcz10_4
    try clear hcz10_5
    try clear hcz10_6
    try clear hcz10_7
    try clear hcz12_0
    try clear hcz12_1
    try clear hcz12_2
    try clear hcz12_3
    try clear hcz12_4
    try clear hcz12_5
    try clear hcz12_6
    try clear hcz12_7
    try clear hcz15_0
    try clear hcz15_1
    try clear hcz15_2
    try clear hcz15_3
    try clear hcz15_4
    try clear hcz15_5
    try clear hcz15_6
    try clear hcz15_7
    try clear hfz10_0
    try clear hfz10_1
    try clear hfz10_2
    try clear hfz10_3
    try clear hfz10_4
    try clear hfz10_5
    try clear hfz10_6
    try clear hfz10_7
    try clear hfz12_0
    try clear hfz12_1
    try clear hfz12_2
    try clear hfz12_3
    try clear hfz12_4
    try clear hfz12_5
    try clear hfz12_6
    try clear hfz12_7
    try clear hfz15_0
    try clear hfz15_1
    try clear hfz15_2
    try clear hfz15_3
    try clear hfz15_4
    try clear hfz15_5
    try clear hfz15_6
    try clear hfz15_7
    obtain ⟨kq, x15_2, rfl, HA, HJ2, BK192, BK193, HB⟩ := hcut
    cases kq with
    | zero => exact absurd HA.out (by simp [spec_Without.j0])
    | succ kj2 =>
      have H := HA.out
      clear HA
      simp only [spec_Without.j0] at H
      by_cases c17 : x15_2 = true
      · subst c17
        have H1 : (some ([] : List (S33))) = some r := by rw [if_pos rfl] at H; exact H
        clear H
        have H := H1
        clear H1
        obtain rfl := Option.some.inj H
        go_wp2
        go_ret
        exact ⟨_, by first | rfl | (simp [errW_none, errW_some] <;> rfl) | (simp [*, errW_none, errW_some] <;> rfl), by first | exact Kd.R_nil _ _ _ _ _ | exact Kd.N_nil _ _ _ _ _ | exact Kd.V_nil _ _ _ _ _ | exact Kd.Q_nil _ _ _ _ _ | exact Kd.S_nil _ _ _ _ _, by repeat (first | (with_reducible first | exact HB.out | apply below_alloc | apply pw_below_drewN | apply below_drew1 | refine below_set ?_ GE192.out | refine below_set ?_ GE193.out) | exact HB.out)⟩
      · replace c17 := Bool.eq_false_iff.mpr c17
        subst c17
        have H1 : ((spec_l3Normal.f a0_0 a0_1 a0_2 a0_3 a0_4 a0_5 a0_6 a0_7).bind fun bt196 => ((spec_Meet.f kj2 bt196.1 bt196.2.1 bt196.2.2.1 bt196.2.2.2.1 bt196.2.2.2.2.1 bt196.2.2.2.2.2.1 bt196.2.2.2.2.2.2.1 bt196.2.2.2.2.2.2.2 a1_0 a1_1 a1_2 a1_3 a1_4 a1_5 a1_6 a1_7).bind fun bt204 => (if bt204.2.2.2.2.2.2.2.2 = true then (if bt196.1 < bt204.1 then ((spec_l3Area.f bt196.1 bt196.2.1 (wrap64 (bt204.1 - 1)) bt196.2.2.2.2.2.1).bind fun bt225 => (if ([] : List (S33)).length < 2932031007402 then (spec_Without.j1 kj2 (([] : List (S33)) ++ [(⟨(⟨bt225.1, bt225.2.1, bt225.2.2.1, bt225.2.2.2.1⟩ : S31), (⟨bt225.2.2.2.2.1, bt225.2.2.2.2.2.1, bt225.2.2.2.2.2.2.1, bt225.2.2.2.2.2.2.2⟩ : S31)⟩ : S33)]) bt196.1 bt196.2.1 bt196.2.2.1 bt196.2.2.2.1 bt196.2.2.2.2.1 bt196.2.2.2.2.2.1 bt196.2.2.2.2.2.2.1 bt196.2.2.2.2.2.2.2 bt204.1 bt204.2.1 bt204.2.2.1 bt204.2.2.2.1 bt204.2.2.2.2.1 bt204.2.2.2.2.2.1 bt204.2.2.2.2.2.2.1 bt204.2.2.2.2.2.2.2.1) else (none))) else (spec_Without.j1 kj2 ([] : List (S33)) bt196.1 bt196.2.1 bt196.2.2.1 bt196.2.2.2.1 bt196.2.2.2.2.1 bt196.2.2.2.2.2.1 bt196.2.2.2.2.2.2.1 bt196.2.2.2.2.2.2.2 bt204.1 bt204.2.1 bt204.2.2.1 bt204.2.2.2.1 bt204.2.2.2.2.1 bt204.2.2.2.2.2.1 bt204.2.2.2.2.2.2.1 bt204.2.2.2.2.2.2.2.1)) else ((spec_l3Area.f bt196.1 bt196.2.1 bt196.2.2.2.2.1 bt196.2.2.2.2.2.1).bind fun bt214 => (some (([(⟨(⟨bt214.1, bt214.2.1, bt214.2.2.1, bt214.2.2.2.1⟩ : S31), (⟨bt214.2.2.2.2.1, bt214.2.2.2.2.2.1, bt214.2.2.2.2.2.2.1, bt214.2.2.2.2.2.2.2⟩ : S31)⟩ : S33)] : List (S33)))))))) = some r := by rw [if_neg (show ¬ (false = true) by decide)] at H; exact H
        clear H
        have H := H1
        clear H1
        replace H := Option.bind_eq_some_iff.mp H
        obtain ⟨⟨t196, t197, t198, t199, t200, t201, t202, t203⟩, A180, H⟩ := H
        replace H : ((spec_Meet.f kj2 t196 t197 t198 t199 t200 t201 t202 t203 a1_0 a1_1 a1_2 a1_3 a1_4 a1_5 a1_6 a1_7).bind fun bt204 => (if bt204.2.2.2.2.2.2.2.2 = true then (if t196 < bt204.1 then ((spec_l3Area.f t196 t197 (wrap64 (bt204.1 - 1)) t201).bind fun bt225 => (if ([] : List (S33)).length < 2932031007402 then (spec_Without.j1 kj2 (([] : List (S33)) ++ [(⟨(⟨bt225.1, bt225.2.1, bt225.2.2.1, bt225.2.2.2.1⟩ : S31), (⟨bt225.2.2.2.2.1, bt225.2.2.2.2.2.1, bt225.2.2.2.2.2.2.1, bt225.2.2.2.2.2.2.2⟩ : S31)⟩ : S33)]) t196 t197 t198 t199 t200 t201 t202 t203 bt204.1 bt204.2.1 bt204.2.2.1 bt204.2.2.2.1 bt204.2.2.2.2.1 bt204.2.2.2.2.2.1 bt204.2.2.2.2.2.2.1 bt204.2.2.2.2.2.2.2.1) else (none))) else (spec_Without.j1 kj2 ([] : List (S33)) t196 t197 t198 t199 t200 t201 t202 t203 bt204.1 bt204.2.1 bt204.2.2.1 bt204.2.2.2.1 bt204.2.2.2.2.1 bt204.2.2.2.2.2.1 bt204.2.2.2.2.2.2.1 bt204.2.2.2.2.2.2.2.1)) else ((spec_l3Area.f t196 t197 t200 t201).bind fun bt214 => (some (([(⟨(⟨bt214.1, bt214.2.1, bt214.2.2.1, bt214.2.2.2.1⟩ : S31), (⟨bt214.2.2.2.2.1, bt214.2.2.2.2.2.1, bt214.2.2.2.2.2.2.1, bt214.2.2.2.2.2.2.2⟩ : S31)⟩ : S33)] : List (S33))))))) = some r := H
        have A18 := Aside0.mk A180
        clear A180
        replace H := Option.bind_eq_some_iff.mp H
        obtain ⟨⟨t204, t205, t206, t207, t208, t209, t210, t211, t212⟩, A190, H⟩ := H
        replace H : (if t212 = true then (if t196 < t204 then ((spec_l3Area.f t196 t197 (wrap64 (t204 - 1)) t201).bind fun bt225 => (if ([] : List (S33)).length < 2932031007402 then (spec_Without.j1 kj2 (([] : List (S33)) ++ [(⟨(⟨bt225.1, bt225.2.1, bt225.2.2.1, bt225.2.2.2.1⟩ : S31), (⟨bt225.2.2.2.2.1, bt225.2.2.2.2.2.1, bt225.2.2.2.2.2.2.1, bt225.2.2.2.2.2.2.2⟩ : S31)⟩ : S33)]) t196 t197 t198 t199 t200 t201 t202 t203 t204 t205 t206 t207 t208 t209 t210 t211) else (none))) else (spec_Without.j1 kj2 ([] : List (S33)) t196 t197 t198 t199 t200 t201 t202 t203 t204 t205 t206 t207 t208 t209 t210 t211)) else ((spec_l3Area.f t196 t197 t200 t201).bind fun bt214 => (some (([(⟨(⟨bt214.1, bt214.2.1, bt214.2.2.1, bt214.2.2.2.1⟩ : S31), (⟨bt214.2.2.2.2.1, bt214.2.2.2.2.2.1, bt214.2.2.2.2.2.2.1, bt214.2.2.2.2.2.2.2⟩ : S31)⟩ : S33)] : List (S33)))))) = some r := H
        have A19 := Aside0.mk A190
        clear A190
        by_cases c20 : t212 = true
        · subst c20
          have H1 : (if t196 < t204 then ((spec_l3Area.f t196 t197 (wrap64 (t204 - 1)) t201).bind fun bt225 => (if ([] : List (S33)).length < 2932031007402 then (spec_Without.j1 kj2 (([] : List (S33)) ++ [(⟨(⟨bt225.1, bt225.2.1, bt225.2.2.1, bt225.2.2.2.1⟩ : S31), (⟨bt225.2.2.2.2.1, bt225.2.2.2.2.2.1, bt225.2.2.2.2.2.2.1, bt225.2.2.2.2.2.2.2⟩ : S31)⟩ : S33)]) t196 t197 t198 t199 t200 t201 t202 t203 t204 t205 t206 t207 t208 t209 t210 t211) else (none))) else (spec_Without.j1 kj2 ([] : List (S33)) t196 t197 t198 t199 t200 t201 t202 t203 t204 t205 t206 t207 t208 t209 t210 t211)) = some r := by rw [if_pos rfl] at H; exact H
          clear H
          have H := H1
          clear H1
          have HC21 := Aside0.mk H
          clear H
          have hnb22 := NB192_193.out
          have hnc22 := NB193_192.out
          have hcz23_0 : wc.cell? ⟨gb192, 0, none⟩ = some (.int .i64 a0_0) := (blk_cell BK192.out 0).trans rfl
          have hcz23_1 : wc.cell? ⟨gb192, 1, none⟩ = some (.int .i64 a0_1) := (blk_cell BK192.out 1).trans rfl
          have hcz23_2 : wc.cell? ⟨gb192, 2, none⟩ = some (.bool a0_2) := (blk_cell BK192.out 2).trans rfl
          have hcz23_3 : wc.cell? ⟨gb192, 3, none⟩ = some (.bool a0_3) := (blk_cell BK192.out 3).trans rfl
          have hcz23_4 : wc.cell? ⟨gb192, 4, none⟩ = some (.int .i64 a0_4) := (blk_cell BK192.out 4).trans rfl
          have hcz23_5 : wc.cell? ⟨gb192, 5, none⟩ = some (.int .i64 a0_5) := (blk_cell BK192.out 5).trans rfl
          have hcz23_6 : wc.cell? ⟨gb192, 6, none⟩ = some (.bool a0_6) := (blk_cell BK192.out 6).trans rfl
          have hcz23_7 : wc.cell? ⟨gb192, 7, none⟩ = some (.bool a0_7) := (blk_cell BK192.out 7).trans rfl
          have hfz23_0 := blk_frozen BK192.out 0
          have hfz23_1 := blk_frozen BK192.out 1
          have hfz23_2 := blk_frozen BK192.out 2
          have hfz23_3 := blk_frozen BK192.out 3
          have hfz23_4 := blk_frozen BK192.out 4
          have hfz23_5 := blk_frozen BK192.out 5
          have hfz23_6 := blk_frozen BK192.out 6
          have hfz23_7 := blk_frozen BK192.out 7
          go_upto_if 46 with (first | ((with_reducible refine gate_callee (f := 52) rfl ?_); refine goesL_ (some 17) rfl rfl Try.func52 (by kernel_rfl) rfl #[.agg #[.int .i64 a0_0, .int .i64 a0_1, .bool a0_2, .bool a0_3, .int .i64 a0_4, .int .i64 a0_5, .bool a0_6, .bool a0_7]] rfl (by (try simp only [List.map_toArray, List.map_cons, List.map_nil]); first | done | rfl | (simp only [List.length_drop, List.length_take]; rfl)) ?_; (with_reducible refine (spec_l3Normal.calls a0_0 a0_1 a0_2 a0_3 a0_4 a0_5 a0_6 a0_7 t196 t197 t198 t199 t200 t201 t202 t203 _ A18.out).mono ?_); rintro e w24 ⟨rfl, hb⟩; refine ⟨_, rfl, ?_⟩; have n0_ := Aside0.mk (blk_below (g := gb192) (o := .cells #[.int .i64 a0_0, .int .i64 a0_1, .bool a0_2, .bool a0_3, .int .i64 a0_4, .int .i64 a0_5, .bool a0_6, .bool a0_7] 33 (0, 0)) (by (with_reducible repeat (first | refine blk_drewN ?_ _ | refine blk_drew ?_ | refine blk_alloc ?_ _)); exact BK192.out) hb); have n1_ := Aside0.mk (blk_below (g := gb193) (o := .cells #[.int .i64 a1_0, .int .i64 a1_1, .bool a1_2, .bool a1_3, .int .i64 a1_4, .int .i64 a1_5, .bool a1_6, .bool a1_7] 33 (0, 0)) (by (with_reducible repeat (first | refine blk_drewN ?_ _ | refine blk_drew ?_ | refine blk_alloc ?_ _)); exact BK193.out) hb); have n2_ := Aside0.mk (below_step (by repeat (first | (with_reducible first | exact HB.out | apply below_alloc | apply pw_below_drewN | apply below_drew1 | refine below_set ?_ GE192.out | refine below_set ?_ GE193.out) | exact HB.out)) hb); clear BK192; clear BK193; clear HB; have BK192 := n0_; have BK193 := n1_; have HB := n2_; clear n0_ n1_ n2_; (try clear hb); (try clear hb2); (try clear hk); (try clear hi); have hcz25_0 : w24.cell? ⟨gb192, 0, none⟩ = some (.int .i64 a0_0) := (blk_cell BK192.out 0).trans rfl; have hcz25_1 : w24.cell? ⟨gb192, 1, none⟩ = some (.int .i64 a0_1) := (blk_cell BK192.out 1).trans rfl; have hcz25_2 : w24.cell? ⟨gb192, 2, none⟩ = some (.bool a0_2) := (blk_cell BK192.out 2).trans rfl; have hcz25_3 : w24.cell? ⟨gb192, 3, none⟩ = some (.bool a0_3) := (blk_cell BK192.out 3).trans rfl; have hcz25_4 : w24.cell? ⟨gb192, 4, none⟩ = some (.int .i64 a0_4) := (blk_cell BK192.out 4).trans rfl; have hcz25_5 : w24.cell? ⟨gb192, 5, none⟩ = some (.int .i64 a0_5) := (blk_cell BK192.out 5).trans rfl; have hcz25_6 : w24.cell? ⟨gb192, 6, none⟩ = some (.bool a0_6) := (blk_cell BK192.out 6).trans rfl; have hcz25_7 : w24.cell? ⟨gb192, 7, none⟩ = some (.bool a0_7) := (blk_cell BK192.out 7).trans rfl; have hfz25_0 := blk_frozen BK192.out 0; have hfz25_1 := blk_frozen BK192.out 1; have hfz25_2 := blk_frozen BK192.out 2; have hfz25_3 := blk_frozen BK192.out 3; have hfz25_4 := blk_frozen BK192.out 4; have hfz25_5 := blk_frozen BK192.out 5; have hfz25_6 := blk_frozen BK192.out 6; have hfz25_7 := blk_frozen BK192.out 7; have hcz26_0 : w24.cell? ⟨gb193, 0, none⟩ = some (.int .i64 a1_0) := (blk_cell BK193.out 0).trans rfl; have hcz26_1 : w24.cell? ⟨gb193, 1, none⟩ = some (.int .i64 a1_1) := (blk_cell BK193.out 1).trans rfl; have hcz26_2 : w24.cell? ⟨gb193, 2, none⟩ = some (.bool a1_2) := (blk_cell BK193.out 2).trans rfl; have hcz26_3 : w24.cell? ⟨gb193, 3, none⟩ = some (.bool a1_3) := (blk_cell BK193.out 3).trans rfl; have hcz26_4 : w24.cell? ⟨gb193, 4, none⟩ = some (.int .i64 a1_4) := (blk_cell BK193.out 4).trans rfl; have hcz26_5 : w24.cell? ⟨gb193, 5, none⟩ = some (.int .i64 a1_5) := (blk_cell BK193.out 5).trans rfl; have hcz26_6 : w24.cell? ⟨gb193, 6, none⟩ = some (.bool a1_6) := (blk_cell BK193.out 6).trans rfl; have hcz26_7 : w24.cell? ⟨gb193, 7, none⟩ = some (.bool a1_7) := (blk_cell BK193.out 7).trans rfl; have hfz26_0 := blk_frozen BK193.out 0; have hfz26_1 := blk_frozen BK193.out 1; have hfz26_2 := blk_frozen BK193.out 2; have hfz26_3 := blk_frozen BK193.out 3; have hfz26_4 := blk_frozen BK193.out 4; have hfz26_5 := blk_frozen BK193.out 5; have hfz26_6 := blk_frozen BK193.out 6; have hfz26_7 := blk_frozen BK193.out 7) | ((with_reducible refine gate_callee (f := 20) rfl ?_); refine goesL_ (some 21) rfl rfl Try.func20 (by kernel_rfl) rfl #[.agg #[.int .i64 t196, .int .i64 t197, .bool t198, .bool t199, .int .i64 t200, .int .i64 t201, .bool t202, .bool t203], .agg #[.int .i64 a1_0, .int .i64 a1_1, .bool a1_2, .bool a1_3, .int .i64 a1_4, .int .i64 a1_5, .bool a1_6, .bool a1_7]] rfl (by (try simp only [List.map_toArray, List.map_cons, List.map_nil]); first | done | rfl | (simp only [List.length_drop, List.length_take]; rfl)) ?_; (with_reducible refine (spec_Meet.calls kj2 t196 t197 t198 t199 t200 t201 t202 t203 a1_0 a1_1 a1_2 a1_3 a1_4 a1_5 a1_6 a1_7 t204 t205 t206 t207 t208 t209 t210 t211 true _ A19.out).mono ?_); rintro e w27 ⟨rfl, hb⟩; refine ⟨_, rfl, ?_⟩; have n0_ := Aside0.mk (blk_below (g := gb192) (o := .cells #[.int .i64 t196, .int .i64 t197, .bool t198, .bool t199, .int .i64 t200, .int .i64 t201, .bool t202, .bool t203] 33 (0, 0)) (by (with_reducible repeat (first | refine blk_drewN ?_ _ | refine blk_drew ?_ | refine blk_alloc ?_ _)); refine blk_put (cs := #[.int .i64 t196, .int .i64 t197, .bool t198, .bool t199, .int .i64 t200, .int .i64 t201, .bool t202, .bool a0_7]) ?_ 7 _ rfl; (with_reducible repeat (first | refine blk_drewN ?_ _ | refine blk_drew ?_ | refine blk_alloc ?_ _)); refine blk_put (cs := #[.int .i64 t196, .int .i64 t197, .bool t198, .bool t199, .int .i64 t200, .int .i64 t201, .bool a0_6, .bool a0_7]) ?_ 6 _ rfl; (with_reducible repeat (first | refine blk_drewN ?_ _ | refine blk_drew ?_ | refine blk_alloc ?_ _)); refine blk_put (cs := #[.int .i64 t196, .int .i64 t197, .bool t198, .bool t199, .int .i64 t200, .int .i64 a0_5, .bool a0_6, .bool a0_7]) ?_ 5 _ rfl; (with_reducible repeat (first | refine blk_drewN ?_ _ | refine blk_drew ?_ | refine blk_alloc ?_ _)); refine blk_put (cs := #[.int .i64 t196, .int .i64 t197, .bool t198, .bool t199, .int .i64 a0_4, .int .i64 a0_5, .bool a0_6, .bool a0_7]) ?_ 4 _ rfl; (with_reducible repeat (first | refine blk_drewN ?_ _ | refine blk_drew ?_ | refine blk_alloc ?_ _)); refine blk_put (cs := #[.int .i64 t196, .int .i64 t197, .bool t198, .bool a0_3, .int .i64 a0_4, .int .i64 a0_5, .bool a0_6, .bool a0_7]) ?_ 3 _ rfl; (with_reducible repeat (first | refine blk_drewN ?_ _ | refine blk_drew ?_ | refine blk_alloc ?_ _)); refine blk_put (cs := #[.int .i64 t196, .int .i64 t197, .bool a0_2, .bool a0_3, .int .i64 a0_4, .int .i64 a0_5, .bool a0_6, .bool a0_7]) ?_ 2 _ rfl; (with_reducible repeat (first | refine blk_drewN ?_ _ | refine blk_drew ?_ | refine blk_alloc ?_ _)); refine blk_put (cs := #[.int .i64 t196, .int .i64 a0_1, .bool a0_2, .bool a0_3, .int .i64 a0_4, .int .i64 a0_5, .bool a0_6, .bool a0_7]) ?_ 1 _ rfl; (with_reducible repeat (first | refine blk_drewN ?_ _ | refine blk_drew ?_ | refine blk_alloc ?_ _)); refine blk_put (cs := #[.int .i64 a0_0, .int .i64 a0_1, .bool a0_2, .bool a0_3, .int .i64 a0_4, .int .i64 a0_5, .bool a0_6, .bool a0_7]) ?_ 0 _ rfl; (with_reducible repeat (first | refine blk_drewN ?_ _ | refine blk_drew ?_ | refine blk_alloc ?_ _)); exact BK192.out) hb); have n1_ := Aside0.mk (blk_below (g := gb193) (o := .cells #[.int .i64 a1_0, .int .i64 a1_1, .bool a1_2, .bool a1_3, .int .i64 a1_4, .int .i64 a1_5, .bool a1_6, .bool a1_7] 33 (0, 0)) (by (with_reducible repeat (first | refine blk_drewN ?_ _ | refine blk_drew ?_ | refine blk_alloc ?_ _)); refine blk_far ?_ NB193_192.out _; (with_reducible repeat (first | refine blk_drewN ?_ _ | refine blk_drew ?_ | refine blk_alloc ?_ _)); refine blk_far ?_ NB193_192.out _; (with_reducible repeat (first | refine blk_drewN ?_ _ | refine blk_drew ?_ | refine blk_alloc ?_ _)); refine blk_far ?_ NB193_192.out _; (with_reducible repeat (first | refine blk_drewN ?_ _ | refine blk_drew ?_ | refine blk_alloc ?_ _)); refine blk_far ?_ NB193_192.out _; (with_reducible repeat (first | refine blk_drewN ?_ _ | refine blk_drew ?_ | refine blk_alloc ?_ _)); refine blk_far ?_ NB193_192.out _; (with_reducible repeat (first | refine blk_drewN ?_ _ | refine blk_drew ?_ | refine blk_alloc ?_ _)); refine blk_far ?_ NB193_192.out _; (with_reducible repeat (first | refine blk_drewN ?_ _ | refine blk_drew ?_ | refine blk_alloc ?_ _)); refine blk_far ?_ NB193_192.out _; (with_reducible repeat (first | refine blk_drewN ?_ _ | refine blk_drew ?_ | refine blk_alloc ?_ _)); refine blk_far ?_ NB193_192.out _; (with_reducible repeat (first | refine blk_drewN ?_ _ | refine blk_drew ?_ | refine blk_alloc ?_ _)); exact BK193.out) hb); have n2_ := Aside0.mk (below_step (by repeat (first | (with_reducible first | exact HB.out | apply below_alloc | apply pw_below_drewN | apply below_drew1 | refine below_set ?_ GE192.out | refine below_set ?_ GE193.out) | exact HB.out)) hb); clear BK192; clear BK193; clear HB; have BK192 := n0_; have BK193 := n1_; have HB := n2_; clear n0_ n1_ n2_; (try clear hb); (try clear hb2); (try clear hk); (try clear hi)) | ((with_reducible refine gate_dst (N := 5) rfl ?_); refine box_event ?hg (N := 5) ?hd (cs := #[.int .i64 0, .int .i64 0, .bool false, .bool false, .int .i64 0, .int .i64 0, .bool false, .bool false]) (t := 33) ?hr ?_; (case hd => rfl); (case hg => rfl); (case hr => first | (go_simp; done) | (go_simp; rfl)); intro gb213 hg w28 hbox hb; have n0_ := Aside0.mk (blk_below (g := gb192) (o := .cells #[.int .i64 t196, .int .i64 t197, .bool t198, .bool t199, .int .i64 t200, .int .i64 t201, .bool t202, .bool t203] 33 (0, 0)) (by (with_reducible repeat (first | refine blk_drewN ?_ _ | refine blk_drew ?_ | refine blk_alloc ?_ _)); exact BK192.out) hb); have n1_ := Aside0.mk (blk_below (g := gb193) (o := .cells #[.int .i64 a1_0, .int .i64 a1_1, .bool a1_2, .bool a1_3, .int .i64 a1_4, .int .i64 a1_5, .bool a1_6, .bool a1_7] 33 (0, 0)) (by (with_reducible repeat (first | refine blk_drewN ?_ _ | refine blk_drew ?_ | refine blk_alloc ?_ _)); exact BK193.out) hb); have n2_ := Aside0.mk (below_step (by repeat (first | (with_reducible first | exact HB.out | apply below_alloc | apply pw_below_drewN | apply below_drew1 | refine below_set ?_ GE192.out | refine below_set ?_ GE193.out) | exact HB.out)) hb); have n3_ := Aside0.mk (hbox); have n4_ := Aside0.mk ((by rw [hg]; exact (below_size (by repeat (first | (with_reducible first | exact HB.out | apply below_alloc | apply pw_below_drewN | apply below_drew1 | refine below_set ?_ GE192.out | refine below_set ?_ GE193.out) | exact HB.out))) : w.heap.size ≤ gb213)); have n5_ := Aside0.mk ((by rw [hg]; exact (below_size (by repeat (first | (with_reducible first | exact HB.out | apply below_alloc | apply pw_below_drewN | apply below_drew1 | refine below_set ?_ GE192.out | refine below_set ?_ GE193.out) | exact HB.out))) : w.heap.size ≤ gb213)); have n6_ := Aside0.mk ((by rw [hg]; exact Nat.ne_of_lt (blk_lt (g := gb192) (o := .cells #[.int .i64 t196, .int .i64 t197, .bool t198, .bool t199, .int .i64 t200, .int .i64 t201, .bool t202, .bool t203] 33 (0, 0)) (by (with_reducible repeat (first | refine blk_drewN ?_ _ | refine blk_drew ?_ | refine blk_alloc ?_ _)); exact BK192.out)) : gb192 ≠ gb213)); have n7_ := Aside0.mk ((by rw [hg]; exact Nat.ne_of_gt (blk_lt (g := gb192) (o := .cells #[.int .i64 t196, .int .i64 t197, .bool t198, .bool t199, .int .i64 t200, .int .i64 t201, .bool t202, .bool t203] 33 (0, 0)) (by (with_reducible repeat (first | refine blk_drewN ?_ _ | refine blk_drew ?_ | refine blk_alloc ?_ _)); exact BK192.out)) : gb213 ≠ gb192)); have n8_ := Aside0.mk ((by rw [hg]; exact Nat.ne_of_lt (blk_lt (g := gb193) (o := .cells #[.int .i64 a1_0, .int .i64 a1_1, .bool a1_2, .bool a1_3, .int .i64 a1_4, .int .i64 a1_5, .bool a1_6, .bool a1_7] 33 (0, 0)) (by (with_reducible repeat (first | refine blk_drewN ?_ _ | refine blk_drew ?_ | refine blk_alloc ?_ _)); exact BK193.out)) : gb193 ≠ gb213)); have n9_ := Aside0.mk ((by rw [hg]; exact Nat.ne_of_gt (blk_lt (g := gb193) (o := .cells #[.int .i64 a1_0, .int .i64 a1_1, .bool a1_2, .bool a1_3, .int .i64 a1_4, .int .i64 a1_5, .bool a1_6, .bool a1_7] 33 (0, 0)) (by (with_reducible repeat (first | refine blk_drewN ?_ _ | refine blk_drew ?_ | refine blk_alloc ?_ _)); exact BK193.out)) : gb213 ≠ gb193)); clear BK192; clear BK193; clear HB; have BK192 := n0_; have BK193 := n1_; have HB := n2_; have BK213 := n3_; have GW213 := n4_; have GE213 := n5_; have NB192_213 := n6_; have NB213_192 := n7_; have NB193_213 := n8_; have NB213_193 := n9_; clear n0_ n1_ n2_ n3_ n4_ n5_ n6_ n7_ n8_ n9_; clear hb hbox hg; have hnb29 := NB213_192.out; have hnc29 := NB192_213.out; have hnb30 := NB213_193.out; have hnc30 := NB193_213.out; have hcz31_0 : w28.cell? ⟨gb213, 0, none⟩ = some (.int .i64 0) := (blk_cell BK213.out 0).trans rfl; have hcz31_1 : w28.cell? ⟨gb213, 1, none⟩ = some (.int .i64 0) := (blk_cell BK213.out 1).trans rfl; have hcz31_2 : w28.cell? ⟨gb213, 2, none⟩ = some (.bool false) := (blk_cell BK213.out 2).trans rfl; have hcz31_3 : w28.cell? ⟨gb213, 3, none⟩ = some (.bool false) := (blk_cell BK213.out 3).trans rfl; have hcz31_4 : w28.cell? ⟨gb213, 4, none⟩ = some (.int .i64 0) := (blk_cell BK213.out 4).trans rfl; have hcz31_5 : w28.cell? ⟨gb213, 5, none⟩ = some (.int .i64 0) := (blk_cell BK213.out 5).trans rfl; have hcz31_6 : w28.cell? ⟨gb213, 6, none⟩ = some (.bool false) := (blk_cell BK213.out 6).trans rfl; have hcz31_7 : w28.cell? ⟨gb213, 7, none⟩ = some (.bool false) := (blk_cell BK213.out 7).trans rfl; have hfz31_0 := blk_frozen BK213.out 0; have hfz31_1 := blk_frozen BK213.out 1; have hfz31_2 := blk_frozen BK213.out 2; have hfz31_3 := blk_frozen BK213.out 3; have hfz31_4 := blk_frozen BK213.out 4; have hfz31_5 := blk_frozen BK213.out 5; have hfz31_6 := blk_frozen BK213.out 6; have hfz31_7 := blk_frozen BK213.out 7; have hcz32_0 : w28.cell? ⟨gb192, 0, none⟩ = some (.int .i64 t196) := (blk_cell BK192.out 0).trans rfl; have hcz32_1 : w28.cell? ⟨gb192, 1, none⟩ = some (.int .i64 t197) := (blk_cell BK192.out 1).trans rfl; have hcz32_2 : w28.cell? ⟨gb192, 2, none⟩ = some (.bool t198) := (blk_cell BK192.out 2).trans rfl; have hcz32_3 : w28.cell? ⟨gb192, 3, none⟩ = some (.bool t199) := (blk_cell BK192.out 3).trans rfl; have hcz32_4 : w28.cell? ⟨gb192, 4, none⟩ = some (.int .i64 t200) := (blk_cell BK192.out 4).trans rfl; have hcz32_5 : w28.cell? ⟨gb192, 5, none⟩ = some (.int .i64 t201) := (blk_cell BK192.out 5).trans rfl; have hcz32_6 : w28.cell? ⟨gb192, 6, none⟩ = some (.bool t202) := (blk_cell BK192.out 6).trans rfl; have hcz32_7 : w28.cell? ⟨gb192, 7, none⟩ = some (.bool t203) := (blk_cell BK192.out 7).trans rfl; have hfz32_0 := blk_frozen BK192.out 0; have hfz32_1 := blk_frozen BK192.out 1; have hfz32_2 := blk_frozen BK192.out 2; have hfz32_3 := blk_frozen BK192.out 3; have hfz32_4 := blk_frozen BK192.out 4; have hfz32_5 := blk_frozen BK192.out 5; have hfz32_6 := blk_frozen BK192.out 6; have hfz32_7 := blk_frozen BK192.out 7))
          (try simp only [Act.put, List.setIfInBounds_toArray, List.set_cons_zero, List.set_cons_succ])
          go_cut [7] (fun v7 wc => ∃ (kq : Nat) (x7_20 : List (S33)), Aside0 (spec_Without.j1 kq x7_20 t196 t197 t198 t199 t200 t201 t202 t203 t204 t205 t206 t207 t208 t209 t210 t211 = some r) ∧ Aside0 (kq ≤ kj2) ∧ Aside0 (Kd.R k33 33 wc w.heap.size (fun k_ => k_ ≠ gb192 ∧ k_ ≠ gb193 ∧ k_ ≠ gb213) v7 x7_20) ∧ Aside0 (wc.heap[gb192]? = some (.cells #[.int .i64 t196, .int .i64 t197, .bool t198, .bool t199, .int .i64 t200, .int .i64 t201, .bool t202, .bool t203] 33 (0, 0))) ∧ Aside0 (wc.heap[gb193]? = some (.cells #[.int .i64 a1_0, .int .i64 a1_1, .bool a1_2, .bool a1_3, .int .i64 a1_4, .int .i64 a1_5, .bool a1_6, .bool a1_7] 33 (0, 0))) ∧ Aside0 (wc.heap[gb213]? = some (.cells #[.int .i64 t204, .int .i64 t205, .bool t206, .bool t207, .int .i64 t208, .int .i64 t209, .bool t210, .bool t211] 33 (0, 0))) ∧ Aside0 (Below w.heap.size w wc))
          case first =>
            have H := HC21.out
            clear HC21
            by_cases c33 : t196 < t204
            · rw [if_pos c33] at H
              have c33b0 : decide (t196 < t204) = true := decide_eq_true c33
              clear c33
              (first | rw [c33b0] | (simp only [i64_w, i32_w]; rw [c33b0]) | skip)
              replace H := Option.bind_eq_some_iff.mp H
              obtain ⟨⟨t225, t226, t227, t228, t229, t230, t231, t232⟩, A340, H⟩ := H
              replace H : (if ([] : List (S33)).length < 2932031007402 then (spec_Without.j1 kj2 (([] : List (S33)) ++ [(⟨(⟨t225, t226, t227, t228⟩ : S31), (⟨t229, t230, t231, t232⟩ : S31)⟩ : S33)]) t196 t197 t198 t199 t200 t201 t202 t203 t204 t205 t206 t207 t208 t209 t210 t211) else (none)) = some r := H
              have A34 := Aside0.mk A340
              clear A340
              by_cases c35 : ([] : List (S33)).length < 2932031007402
              · rw [if_pos c35] at H
                have LMc35 := Aside0.mk c35
                clear c35
                obtain ⟨y233, hy233⟩ : ∃ y_ : List (S33), y_ = (([] : List (S33)) ++ [(⟨(⟨t225, t226, t227, t228⟩ : S31), (⟨t229, t230, t231, t232⟩ : S31)⟩ : S33)]) := ⟨_, rfl⟩
                replace H : (spec_Without.j1 kj2 y233 t196 t197 t198 t199 t200 t201 t202 t203 t204 t205 t206 t207 t208 t209 t210 t211) = some r := by first | (rw [hy233]; with_reducible exact H) | (have H2_ := (Option.bind_some _ _).symm.trans H; rw [hy233]; with_reducible exact H2_) | (have H2_ := (Option.bind_some _ _).symm.trans H; with_reducible exact H2_) | with_reducible exact H | (rw [hy233]; exact H) | exact H
                have Ny233 := Aside0.mk hy233
                clear hy233
                have H' := Aside0.mk H
                clear H
                have hnb36 := NB192_193.out
                have hnc36 := NB193_192.out
                have hnb37 := NB192_213.out
                have hnc37 := NB213_192.out
                have hcz38_0 : w28.cell? ⟨gb192, 0, none⟩ = some (.int .i64 t196) := (blk_cell BK192.out 0).trans rfl
                have hcz38_1 : w28.cell? ⟨gb192, 1, none⟩ = some (.int .i64 t197) := (blk_cell BK192.out 1).trans rfl
                have hcz38_2 : w28.cell? ⟨gb192, 2, none⟩ = some (.bool t198) := (blk_cell BK192.out 2).trans rfl
                have hcz38_3 : w28.cell? ⟨gb192, 3, none⟩ = some (.bool t199) := (blk_cell BK192.out 3).trans rfl
                have hcz38_4 : w28.cell? ⟨gb192, 4, none⟩ = some (.int .i64 t200) := (blk_cell BK192.out 4).trans rfl
                have hcz38_5 : w28.cell? ⟨gb192, 5, none⟩ = some (.int .i64 t201) := (blk_cell BK192.out 5).trans rfl
                have hcz38_6 : w28.cell? ⟨gb192, 6, none⟩ = some (.bool t202) := (blk_cell BK192.out 6).trans rfl
                have hcz38_7 : w28.cell? ⟨gb192, 7, none⟩ = some (.bool t203) := (blk_cell BK192.out 7).trans rfl
                have hfz38_0 := blk_frozen BK192.out 0
                have hfz38_1 := blk_frozen BK192.out 1
                have hfz38_2 := blk_frozen BK192.out 2
                have hfz38_3 := blk_frozen BK192.out 3
                have hfz38_4 := blk_frozen BK192.out 4
                have hfz38_5 := blk_frozen BK192.out 5
                have hfz38_6 := blk_frozen BK192.out 6
                have hfz38_7 := blk_frozen BK192.out 7
                have hnb39 := NB213_193.out
                have hnc39 := NB193_213.out
                have hcz40_0 : w28.cell? ⟨gb213, 0, none⟩ = some (.int .i64 0) := (blk_cell BK213.out 0).trans rfl
                have hcz40_1 : w28.cell? ⟨gb213, 1, none⟩ = some (.int .i64 0) := (blk_cell BK213.out 1).trans rfl
                have hcz40_2 : w28.cell? ⟨gb213, 2, none⟩ = some (.bool false) := (blk_cell BK213.out 2).trans rfl
                have hcz40_3 : w28.cell? ⟨gb213, 3, none⟩ = some (.bool false) := (blk_cell BK213.out 3).trans rfl
                have hcz40_4 : w28.cell? ⟨gb213, 4, none⟩ = some (.int .i64 0) := (blk_cell BK213.out 4).trans rfl
                have hcz40_5 : w28.cell? ⟨gb213, 5, none⟩ = some (.int .i64 0) := (blk_cell BK213.out 5).trans rfl
                have hcz40_6 : w28.cell? ⟨gb213, 6, none⟩ = some (.bool false) := (blk_cell BK213.out 6).trans rfl
                have hcz40_7 : w28.cell? ⟨gb213, 7, none⟩ = some (.bool false) := (blk_cell BK213.out 7).trans rfl
                have hfz40_0 := blk_frozen BK213.out 0
                have hfz40_1 := blk_frozen BK213.out 1
                have hfz40_2 := blk_frozen BK213.out 2
                have hfz40_3 := blk_frozen BK213.out 3
                have hfz40_4 := blk_frozen BK213.out 4
                have hfz40_5 := blk_frozen BK213.out 5
                have hfz40_6 := blk_frozen BK213.out 6
                have hfz40_7 := blk_frozen BK213.out 7
                go_wp2_with (first | ((with_reducible refine gate_callee (f := 53) rfl ?_); refine goesL_ (some 61) rfl rfl Try.func53 (by kernel_rfl) rfl #[.int .i64 t196, .int .i64 t197, .int .i64 (wrap64 (t204 - 1)), .int .i64 t201] rfl (by (try simp only [List.map_toArray, List.map_cons, List.map_nil]); first | done | rfl | (simp only [List.length_drop, List.length_take]; rfl)) ?_; (with_reducible refine (spec_l3Area.calls t196 t197 (wrap64 (t204 - 1)) t201 t225 t226 t227 t228 t229 t230 t231 t232 _ A34.out).mono ?_); rintro e w41 ⟨rfl, hb⟩; refine ⟨_, rfl, ?_⟩; have n0_ := Aside0.mk (blk_below (g := gb192) (o := .cells #[.int .i64 t196, .int .i64 t197, .bool t198, .bool t199, .int .i64 t200, .int .i64 t201, .bool t202, .bool t203] 33 (0, 0)) (by (with_reducible repeat (first | refine blk_drewN ?_ _ | refine blk_drew ?_ | refine blk_alloc ?_ _)); refine blk_far ?_ NB192_213.out _; (with_reducible repeat (first | refine blk_drewN ?_ _ | refine blk_drew ?_ | refine blk_alloc ?_ _)); refine blk_far ?_ NB192_213.out _; (with_reducible repeat (first | refine blk_drewN ?_ _ | refine blk_drew ?_ | refine blk_alloc ?_ _)); refine blk_far ?_ NB192_213.out _; (with_reducible repeat (first | refine blk_drewN ?_ _ | refine blk_drew ?_ | refine blk_alloc ?_ _)); refine blk_far ?_ NB192_213.out _; (with_reducible repeat (first | refine blk_drewN ?_ _ | refine blk_drew ?_ | refine blk_alloc ?_ _)); refine blk_far ?_ NB192_213.out _; (with_reducible repeat (first | refine blk_drewN ?_ _ | refine blk_drew ?_ | refine blk_alloc ?_ _)); refine blk_far ?_ NB192_213.out _; (with_reducible repeat (first | refine blk_drewN ?_ _ | refine blk_drew ?_ | refine blk_alloc ?_ _)); refine blk_far ?_ NB192_213.out _; (with_reducible repeat (first | refine blk_drewN ?_ _ | refine blk_drew ?_ | refine blk_alloc ?_ _)); refine blk_far ?_ NB192_213.out _; (with_reducible repeat (first | refine blk_drewN ?_ _ | refine blk_drew ?_ | refine blk_alloc ?_ _)); exact BK192.out) hb); have n1_ := Aside0.mk (blk_below (g := gb193) (o := .cells #[.int .i64 a1_0, .int .i64 a1_1, .bool a1_2, .bool a1_3, .int .i64 a1_4, .int .i64 a1_5, .bool a1_6, .bool a1_7] 33 (0, 0)) (by (with_reducible repeat (first | refine blk_drewN ?_ _ | refine blk_drew ?_ | refine blk_alloc ?_ _)); refine blk_far ?_ NB193_213.out _; (with_reducible repeat (first | refine blk_drewN ?_ _ | refine blk_drew ?_ | refine blk_alloc ?_ _)); refine blk_far ?_ NB193_213.out _; (with_reducible repeat (first | refine blk_drewN ?_ _ | refine blk_drew ?_ | refine blk_alloc ?_ _)); refine blk_far ?_ NB193_213.out _; (with_reducible repeat (first | refine blk_drewN ?_ _ | refine blk_drew ?_ | refine blk_alloc ?_ _)); refine blk_far ?_ NB193_213.out _; (with_reducible repeat (first | refine blk_drewN ?_ _ | refine blk_drew ?_ | refine blk_alloc ?_ _)); refine blk_far ?_ NB193_213.out _; (with_reducible repeat (first | refine blk_drewN ?_ _ | refine blk_drew ?_ | refine blk_alloc ?_ _)); refine blk_far ?_ NB193_213.out _; (with_reducible repeat (first | refine blk_drewN ?_ _ | refine blk_drew ?_ | refine blk_alloc ?_ _)); refine blk_far ?_ NB193_213.out _; (with_reducible repeat (first | refine blk_drewN ?_ _ | refine blk_drew ?_ | refine blk_alloc ?_ _)); refine blk_far ?_ NB193_213.out _; (with_reducible repeat (first | refine blk_drewN ?_ _ | refine blk_drew ?_ | refine blk_alloc ?_ _)); exact BK193.out) hb); have n2_ := Aside0.mk (blk_below (g := gb213) (o := .cells #[.int .i64 t204, .int .i64 t205, .bool t206, .bool t207, .int .i64 t208, .int .i64 t209, .bool t210, .bool t211] 33 (0, 0)) (by (with_reducible repeat (first | refine blk_drewN ?_ _ | refine blk_drew ?_ | refine blk_alloc ?_ _)); refine blk_put (cs := #[.int .i64 t204, .int .i64 t205, .bool t206, .bool t207, .int .i64 t208, .int .i64 t209, .bool t210, .bool false]) ?_ 7 _ rfl; (with_reducible repeat (first | refine blk_drewN ?_ _ | refine blk_drew ?_ | refine blk_alloc ?_ _)); refine blk_put (cs := #[.int .i64 t204, .int .i64 t205, .bool t206, .bool t207, .int .i64 t208, .int .i64 t209, .bool false, .bool false]) ?_ 6 _ rfl; (with_reducible repeat (first | refine blk_drewN ?_ _ | refine blk_drew ?_ | refine blk_alloc ?_ _)); refine blk_put (cs := #[.int .i64 t204, .int .i64 t205, .bool t206, .bool t207, .int .i64 t208, .int .i64 0, .bool false, .bool false]) ?_ 5 _ rfl; (with_reducible repeat (first | refine blk_drewN ?_ _ | refine blk_drew ?_ | refine blk_alloc ?_ _)); refine blk_put (cs := #[.int .i64 t204, .int .i64 t205, .bool t206, .bool t207, .int .i64 0, .int .i64 0, .bool false, .bool false]) ?_ 4 _ rfl; (with_reducible repeat (first | refine blk_drewN ?_ _ | refine blk_drew ?_ | refine blk_alloc ?_ _)); refine blk_put (cs := #[.int .i64 t204, .int .i64 t205, .bool t206, .bool false, .int .i64 0, .int .i64 0, .bool false, .bool false]) ?_ 3 _ rfl; (with_reducible repeat (first | refine blk_drewN ?_ _ | refine blk_drew ?_ | refine blk_alloc ?_ _)); refine blk_put (cs := #[.int .i64 t204, .int .i64 t205, .bool false, .bool false, .int .i64 0, .int .i64 0, .bool false, .bool false]) ?_ 2 _ rfl; (with_reducible repeat (first | refine blk_drewN ?_ _ | refine blk_drew ?_ | refine blk_alloc ?_ _)); refine blk_put (cs := #[.int .i64 t204, .int .i64 0, .bool false, .bool false, .int .i64 0, .int .i64 0, .bool false, .bool false]) ?_ 1 _ rfl; (with_reducible repeat (first | refine blk_drewN ?_ _ | refine blk_drew ?_ | refine blk_alloc ?_ _)); refine blk_put (cs := #[.int .i64 0, .int .i64 0, .bool false, .bool false, .int .i64 0, .int .i64 0, .bool false, .bool false]) ?_ 0 _ rfl; (with_reducible repeat (first | refine blk_drewN ?_ _ | refine blk_drew ?_ | refine blk_alloc ?_ _)); exact BK213.out) hb); have n3_ := Aside0.mk (below_step (by repeat (first | (with_reducible first | exact HB.out | apply below_alloc | apply pw_below_drewN | apply below_drew1 | refine below_set ?_ GE192.out | refine below_set ?_ GE193.out | refine below_set ?_ GE213.out) | exact HB.out)) hb); clear BK192; clear BK193; clear BK213; clear HB; have BK192 := n0_; have BK193 := n1_; have BK213 := n2_; have HB := n3_; clear n0_ n1_ n2_ n3_; (try clear hb); (try clear hb2); (try clear hk); (try clear hi)) | ((with_reducible refine gate_builtin (b := .append) (xs := #[.tmp 47, .tmp 62]) rfl ?_); at_builtin; refine Kd.R_append k33 (w0 := w) w.heap.size rfl (.tmp 47) (.tmp 62) 38 33 (.agg #[(.int .i64 0), (.int .i64 0), (.bool false), (.bool false), (.int .i64 0), (.int .i64 0), (.bool false), (.bool false)]) 48 rfl Try.underlying38 info33 rfl (by decide) (by omega) (.slice none 0 0) ([] : List (S33)) (⟨(⟨t225, t226, t227, t228⟩ : S31), (⟨t229, t230, t231, t232⟩ : S31)⟩ : S33) [.int .i64 t225, .int .i64 t226, .bool t227, .bool t228, .int .i64 t229, .int .i64 t230, .bool t231, .bool t232] (fun k_ => k_ ≠ gb192 ∧ k_ ≠ gb193 ∧ k_ ≠ gb213) (fun _ => False) rfl rfl ?aP (fun _ hk => hk.elim) ?aF ?aO ?aB ?aS ?aL ?_; (case aP => exact k33_mkM _ _ _ (⟨(⟨t225, t226, t227, t228⟩ : S31), (⟨t229, t230, t231, t232⟩ : S31)⟩ : S33)); (case aB => exact (by repeat (first | (with_reducible first | exact HB.out | apply below_alloc | apply pw_below_drewN | apply below_drew1 | refine below_set ?_ GE192.out | refine below_set ?_ GE193.out | refine below_set ?_ GE213.out) | exact HB.out))); (case aF => exact (fun k_ hk => ⟨Kd.freshB (g := gb192) (o := .cells #[.int .i64 t196, .int .i64 t197, .bool t198, .bool t199, .int .i64 t200, .int .i64 t201, .bool t202, .bool t203] 33 (0, 0)) (by (with_reducible repeat (first | refine blk_drewN ?_ _ | refine blk_drew ?_ | refine blk_alloc ?_ _)); exact BK192.out) k_ hk, Kd.freshB (g := gb193) (o := .cells #[.int .i64 a1_0, .int .i64 a1_1, .bool a1_2, .bool a1_3, .int .i64 a1_4, .int .i64 a1_5, .bool a1_6, .bool a1_7] 33 (0, 0)) (by (with_reducible repeat (first | refine blk_drewN ?_ _ | refine blk_drew ?_ | refine blk_alloc ?_ _)); exact BK193.out) k_ hk, Kd.freshB (g := gb213) (o := .cells #[.int .i64 t204, .int .i64 t205, .bool t206, .bool t207, .int .i64 t208, .int .i64 t209, .bool t210, .bool t211] 33 (0, 0)) (by (with_reducible repeat (first | refine blk_drewN ?_ _ | refine blk_drew ?_ | refine blk_alloc ?_ _)); exact BK213.out) k_ hk⟩)); (case aO => exact ((Kd.R_nil _ _ _ _ (fun k_ => k_ ≠ gb192 ∧ k_ ≠ gb193 ∧ k_ ≠ gb213)))); (case aS => exact (below_size (by repeat (first | (with_reducible first | exact HB.out | apply below_alloc | apply pw_below_drewN | apply below_drew1 | refine below_set ?_ GE192.out | refine below_set ?_ GE193.out | refine below_set ?_ GE213.out) | exact HB.out)))); (case aL => have := LMc35.out; omega); intro v234 w42 ho hb hg hat; rw [← Ny233.out] at ho; have n0_ := Aside0.mk (blk_grown (g := gb192) (o := .cells #[.int .i64 t196, .int .i64 t197, .bool t198, .bool t199, .int .i64 t200, .int .i64 t201, .bool t202, .bool t203] 33 (0, 0)) (by (with_reducible repeat (first | refine blk_drewN ?_ _ | refine blk_drew ?_ | refine blk_alloc ?_ _)); exact BK192.out) hg (by simp [Value.ownBlock])); have n1_ := Aside0.mk (blk_grown (g := gb193) (o := .cells #[.int .i64 a1_0, .int .i64 a1_1, .bool a1_2, .bool a1_3, .int .i64 a1_4, .int .i64 a1_5, .bool a1_6, .bool a1_7] 33 (0, 0)) (by (with_reducible repeat (first | refine blk_drewN ?_ _ | refine blk_drew ?_ | refine blk_alloc ?_ _)); exact BK193.out) hg (by simp [Value.ownBlock])); have n2_ := Aside0.mk (blk_grown (g := gb213) (o := .cells #[.int .i64 t204, .int .i64 t205, .bool t206, .bool t207, .int .i64 t208, .int .i64 t209, .bool t210, .bool t211] 33 (0, 0)) (by (with_reducible repeat (first | refine blk_drewN ?_ _ | refine blk_drew ?_ | refine blk_alloc ?_ _)); exact BK213.out) hg (by simp [Value.ownBlock])); have n3_ := Aside0.mk (hb); have n4_ := Aside0.mk (ho); clear BK192; clear BK193; clear BK213; clear HB; have BK192 := n0_; have BK193 := n1_; have BK213 := n2_; have HB := n3_; have HO235 := n4_; clear n0_ n1_ n2_ n3_ n4_; clear ho hb hg hat))
                go_meet
                case rel => exact ⟨_, (y233), H', ⟨by have := HJ2.out; first | omega | exact Nat.le_refl _⟩, ⟨by (with_reducible repeat (first | apply Kd.R_alloc | apply Kd.R_drewN | apply Kd.R_drew)); exact HO235.out⟩, ⟨by (with_reducible repeat (first | refine blk_drewN ?_ _ | refine blk_drew ?_ | refine blk_alloc ?_ _)); exact BK192.out⟩, ⟨by (with_reducible repeat (first | refine blk_drewN ?_ _ | refine blk_drew ?_ | refine blk_alloc ?_ _)); exact BK193.out⟩, ⟨by (with_reducible repeat (first | refine blk_drewN ?_ _ | refine blk_drew ?_ | refine blk_alloc ?_ _)); exact BK213.out⟩, ⟨by repeat (first | (with_reducible first | exact HB.out | apply below_alloc | apply pw_below_drewN | apply below_drew1 | refine below_set ?_ GE192.out | refine below_set ?_ GE193.out | refine below_set ?_ GE213.out) | exact HB.out)⟩⟩
              · rw [if_neg c35] at H
                exact absurd H (by simp)
            · rw [if_neg c33] at H
              have c33b0 : decide (t196 < t204) = false := decide_eq_false c33
              clear c33
              (first | rw [c33b0] | (simp only [i64_w, i32_w]; rw [c33b0]) | skip)
              have H' := Aside0.mk H
              clear H
              go_wp2
              go_meet
              case rel => exact ⟨_, (([] : List (S33))), H', ⟨by have := HJ2.out; first | omega | exact Nat.le_refl _⟩, ⟨by first | exact Kd.R_nil _ _ _ _ _ | exact Kd.N_nil _ _ _ _ _ | exact Kd.V_nil _ _ _ _ _ | exact Kd.Q_nil _ _ _ _ _ | exact Kd.S_nil _ _ _ _ _⟩, ⟨by (with_reducible repeat (first | refine blk_drewN ?_ _ | refine blk_drew ?_ | refine blk_alloc ?_ _)); refine blk_far ?_ NB192_213.out _; (with_reducible repeat (first | refine blk_drewN ?_ _ | refine blk_drew ?_ | refine blk_alloc ?_ _)); refine blk_far ?_ NB192_213.out _; (with_reducible repeat (first | refine blk_drewN ?_ _ | refine blk_drew ?_ | refine blk_alloc ?_ _)); refine blk_far ?_ NB192_213.out _; (with_reducible repeat (first | refine blk_drewN ?_ _ | refine blk_drew ?_ | refine blk_alloc ?_ _)); refine blk_far ?_ NB192_213.out _; (with_reducible repeat (first | refine blk_drewN ?_ _ | refine blk_drew ?_ | refine blk_alloc ?_ _)); refine blk_far ?_ NB192_213.out _; (with_reducible repeat (first | refine blk_drewN ?_ _ | refine blk_drew ?_ | refine blk_alloc ?_ _)); refine blk_far ?_ NB192_213.out _; (with_reducible repeat (first | refine blk_drewN ?_ _ | refine blk_drew ?_ | refine blk_alloc ?_ _)); refine blk_far ?_ NB192_213.out _; (with_reducible repeat (first | refine blk_drewN ?_ _ | refine blk_drew ?_ | refine blk_alloc ?_ _)); refine blk_far ?_ NB192_213.out _; (with_reducible repeat (first | refine blk_drewN ?_ _ | refine blk_drew ?_ | refine blk_alloc ?_ _)); exact BK192.out⟩, ⟨by (with_reducible repeat (first | refine blk_drewN ?_ _ | refine blk_drew ?_ | refine blk_alloc ?_ _)); refine blk_far ?_ NB193_213.out _; (with_reducible repeat (first | refine blk_drewN ?_ _ | refine blk_drew ?_ | refine blk_alloc ?_ _)); refine blk_far ?_ NB193_213.out _; (with_reducible repeat (first | refine blk_drewN ?_ _ | refine blk_drew ?_ | refine blk_alloc ?_ _)); refine blk_far ?_ NB193_213.out _; (with_reducible repeat (first | refine blk_drewN ?_ _ | refine blk_drew ?_ | refine blk_alloc ?_ _)); refine blk_far ?_ NB193_213.out _; (with_reducible repeat (first | refine blk_drewN ?_ _ | refine blk_drew ?_ | refine blk_alloc ?_ _)); refine blk_far ?_ NB193_213.out _; (with_reducible repeat (first | refine blk_drewN ?_ _ | refine blk_drew ?_ | refine blk_alloc ?_ _)); refine blk_far ?_ NB193_213.out _; (with_reducible repeat (first | refine blk_drewN ?_ _ | refine blk_drew ?_ | refine blk_alloc ?_ _)); refine blk_far ?_ NB193_213.out _; (with_reducible repeat (first | refine blk_drewN ?_ _ | refine blk_drew ?_ | refine blk_alloc ?_ _)); refine blk_far ?_ NB193_213.out _; (with_reducible repeat (first | refine blk_drewN ?_ _ | refine blk_drew ?_ | refine blk_alloc ?_ _)); exact BK193.out⟩, ⟨by (with_reducible repeat (first | refine blk_drewN ?_ _ | refine blk_drew ?_ | refine blk_alloc ?_ _)); refine blk_put (cs := #[.int .i64 t204, .int .i64 t205, .bool t206, .bool t207, .int .i64 t208, .int .i64 t209, .bool t210, .bool false]) ?_ 7 _ rfl; (with_reducible repeat (first | refine blk_drewN ?_ _ | refine blk_drew ?_ | refine blk_alloc ?_ _)); refine blk_put (cs := #[.int .i64 t204, .int .i64 t205, .bool t206, .bool t207, .int .i64 t208, .int .i64 t209, .bool false, .bool false]) ?_ 6 _ rfl; (with_reducible repeat (first | refine blk_drewN ?_ _ | refine blk_drew ?_ | refine blk_alloc ?_ _)); refine blk_put (cs := #[.int .i64 t204, .int .i64 t205, .bool t206, .bool t207, .int .i64 t208, .int .i64 0, .bool false, .bool false]) ?_ 5 _ rfl; (with_reducible repeat (first | refine blk_drewN ?_ _ | refine blk_drew ?_ | refine blk_alloc ?_ _)); refine blk_put (cs := #[.int .i64 t204, .int .i64 t205, .bool t206, .bool t207, .int .i64 0, .int .i64 0, .bool false, .bool false]) ?_ 4 _ rfl; (with_reducible repeat (first | refine blk_drewN ?_ _ | refine blk_drew ?_ | refine blk_alloc ?_ _)); refine blk_put (cs := #[.int .i64 t204, .int .i64 t205, .bool t206, .bool false, .int .i64 0, .int .i64 0, .bool false, .bool false]) ?_ 3 _ rfl; (with_reducible repeat (first | refine blk_drewN ?_ _ | refine blk_drew ?_ | refine blk_alloc ?_ _)); refine blk_put (cs := #[.int .i64 t204, .int .i64 t205, .bool false, .bool false, .int .i64 0, .int .i64 0, .bool false, .bool false]) ?_ 2 _ rfl; (with_reducible repeat (first | refine blk_drewN ?_ _ | refine blk_drew ?_ | refine blk_alloc ?_ _)); refine blk_put (cs := #[.int .i64 t204, .int .i64 0, .bool false, .bool false, .int .i64 0, .int .i64 0, .bool false, .bool false]) ?_ 1 _ rfl; (with_reducible repeat (first | refine blk_drewN ?_ _ | refine blk_drew ?_ | refine blk_alloc ?_ _)); refine blk_put (cs := #[.int .i64 0, .int .i64 0, .bool false, .bool false, .int .i64 0, .int .i64 0, .bool false, .bool false]) ?_ 0 _ rfl; (with_reducible repeat (first | refine blk_drewN ?_ _ | refine blk_drew ?_ | refine blk_alloc ?_ _)); exact BK213.out⟩, ⟨by repeat (first | (with_reducible first | exact HB.out | apply below_alloc | apply pw_below_drewN | apply below_drew1 | refine below_set ?_ GE192.out | refine below_set ?_ GE193.out | refine below_set ?_ GE213.out) | exact HB.out)⟩⟩
          case rest =>
            clear HC21
            try clear c1
            try clear c2
            try clear p2
            try clear c3
            try clear c5
            try clear p6
            try clear c7
            try clear c9
            try clear c14
            try clear c16
            try clear c17
            try clear c20
            try clear c22
            try clear c29
            try clear c30
            try clear c33
            try clear c33b0
            try clear c35
            try clear c36
            try clear c37
            try clear c39
            try clear hcz10_0
            try clear hcz10_1
            try clear hcz10_2
            try clear hcz10_3
            try clear hcz10_4
            try clear hcz10_5
            try clear hcz10_6
            try clear hcz10_7
            try clear hcz12_0
            try clear hcz12_1
            try clear hcz12_2
            try clear hcz12_3
            try clear hcz12_4
            try clear hcz12_5
            try clear hcz12_6
            try clear hcz12_7
            try clear hcz15_0
            try clear hcz15_1
            try clear hcz15_2
            try clear hcz15_3
            try clear hcz15_4
            try clear hcz15_5
            try clear hcz15_6
            try clear hcz15_7
            try clear hcz23_0
            try clear hcz23_1
            try clear hcz23_2
            try clear hcz23_3
            try clear hcz23_4
            try clear hcz23_5
            try clear hcz23_6
            try clear hcz23_7
            try clear hcz25_0
            try clear hcz25_1
            try clear hcz25_2
            try clear hcz25_3
            try clear hcz25_4
            try clear hcz25_5
            try clear hcz25_6
            try clear hcz25_7
            try clear hcz26_0
            try clear hcz26_1
            try clear hcz26_2
            try clear hcz26_3
            try clear hcz26_4
            try clear hcz26_5
            try clear hcz26_6
            try clear hcz26_7
            try clear hcz31_0
            try clear hcz31_1
            try clear hcz31_2
            try clear hcz31_3
            try clear hcz31_4
            try clear hcz31_5
            try clear hcz31_6
            try clear hcz31_7
            try clear hcz32_0
            try clear hcz32_1
            try clear hcz32_2
            try clear hcz32_3
            try clear hcz32_4
            try clear hcz32_5
            try clear hcz32_6
            try clear hcz32_7
            try clear hcz38_0
            try clear hcz38_1
            try clear hcz38_2
            try clear hcz38_3
            try clear hcz38_4
            try clear hcz38_5
            try clear hcz38_6
            try clear hcz38_7
            try clear hcz40_0
            try clear hcz40_1
            try clear hcz40_2
            try clear hcz40_3
            try clear hcz40_4
            try clear hcz40_5
            try clear hcz40_6
            try clear hcz40_7
            try clear hfz10_0
            try clear hfz10_1
            try clear hfz10_2
            try clear hfz10_3
            try clear hfz10_4
            try clear hfz10_5
            try clear hfz10_6
            try clear hfz10_7
            try clear hfz12_0
            try clear hfz12_1
            try clear hfz12_2
            try clear hfz12_3
            try clear hfz12_4
            try clear hfz12_5
            try clear hfz12_6
            try clear hfz12_7
            try clear hfz15_0
            try clear hfz15_1
            try clear hfz15_2
            try clear hfz15_3
            try clear hfz15_4
            try clear hfz15_5
            try clear hfz15_6
            try clear hfz15_7
            try clear hfz23_0
            try clear hfz23_1
            try clear hfz23_2
            try clear hfz23_3
            try clear hfz23_4
            try clear hfz23_5
            try clear hfz23_6
            try clear hfz23_7
            try clear hfz25_0
            try clear hfz25_1
            try clear hfz25_2
            try clear hfz25_3
            try clear hfz25_4
            try clear hfz25_5
            try clear hfz25_6
            try clear hfz25_7
            try clear hfz26_0
            try clear hfz26_1
            try clear hfz26_2
            try clear hfz26_3
            try clear hfz26_4
            try clear hfz26_5
            try clear hfz26_6
            try clear hfz26_7
            try clear hfz31_0
            try clear hfz31_1
            try clear hfz31_2
            try clear hfz31_3
            try clear hfz31_4
            try clear hfz31_5
            try clear hfz31_6
            try clear hfz31_7
            try clear hfz32_0
            try clear hfz32_1
            try clear hfz32_2
            try clear hfz32_3
            try clear hfz32_4
            try clear hfz32_5
            try clear hfz32_6
            try clear hfz32_7
            try clear hfz38_0
            try clear hfz38_1
            try clear hfz38_2
            try clear hfz38_3
            try clear hfz38_4
            try clear hfz38_5
            try clear hfz38_6
            try clear hfz38_7
            try clear hfz40_0
            try clear hfz40_1
            try clear hfz40_2
            try clear hfz40_3
            try clear hfz40_4
            try clear hfz40_5
            try clear hfz40_6
            try clear hfz40_7
            try clear p2
            obtain ⟨kq, x7_20, HA, HJ20, HO_7, BK192, BK193, BK213, HB⟩ := hcut
            cases kq with
            | zero => exact absurd HA.out (by simp [spec_Without.j1])
            | succ kj20 =>
              have H := HA.out
              clear HA
              simp only [spec_Without.j1] at H
              have HC43 := Aside0.mk H
              clear H
              have hnb44 := NB192_193.out
              have hnc44 := NB193_192.out
              have hnb45 := NB192_213.out
              have hnc45 := NB213_192.out
              have hcz46_0 : wc.cell? ⟨gb192, 0, none⟩ = some (.int .i64 t196) := (blk_cell BK192.out 0).trans rfl
              have hcz46_1 : wc.cell? ⟨gb192, 1, none⟩ = some (.int .i64 t197) := (blk_cell BK192.out 1).trans rfl
              have hcz46_2 : wc.cell? ⟨gb192, 2, none⟩ = some (.bool t198) := (blk_cell BK192.out 2).trans rfl
              have hcz46_3 : wc.cell? ⟨gb192, 3, none⟩ = some (.bool t199) := (blk_cell BK192.out 3).trans rfl
              have hcz46_4 : wc.cell? ⟨gb192, 4, none⟩ = some (.int .i64 t200) := (blk_cell BK192.out 4).trans rfl
              have hcz46_5 : wc.cell? ⟨gb192, 5, none⟩ = some (.int .i64 t201) := (blk_cell BK192.out 5).trans rfl
              have hcz46_6 : wc.cell? ⟨gb192, 6, none⟩ = some (.bool t202) := (blk_cell BK192.out 6).trans rfl
              have hcz46_7 : wc.cell? ⟨gb192, 7, none⟩ = some (.bool t203) := (blk_cell BK192.out 7).trans rfl
              have hfz46_0 := blk_frozen BK192.out 0
              have hfz46_1 := blk_frozen BK192.out 1
              have hfz46_2 := blk_frozen BK192.out 2
              have hfz46_3 := blk_frozen BK192.out 3
              have hfz46_4 := blk_frozen BK192.out 4
              have hfz46_5 := blk_frozen BK192.out 5
              have hfz46_6 := blk_frozen BK192.out 6
              have hfz46_7 := blk_frozen BK192.out 7
              have hnb47 := NB213_193.out
              have hnc47 := NB193_213.out
              have hcz48_0 : wc.cell? ⟨gb213, 0, none⟩ = some (.int .i64 t204) := (blk_cell BK213.out 0).trans rfl
              have hcz48_1 : wc.cell? ⟨gb213, 1, none⟩ = some (.int .i64 t205) := (blk_cell BK213.out 1).trans rfl
              have hcz48_2 : wc.cell? ⟨gb213, 2, none⟩ = some (.bool t206) := (blk_cell BK213.out 2).trans rfl
              have hcz48_3 : wc.cell? ⟨gb213, 3, none⟩ = some (.bool t207) := (blk_cell BK213.out 3).trans rfl
              have hcz48_4 : wc.cell? ⟨gb213, 4, none⟩ = some (.int .i64 t208) := (blk_cell BK213.out 4).trans rfl
              have hcz48_5 : wc.cell? ⟨gb213, 5, none⟩ = some (.int .i64 t209) := (blk_cell BK213.out 5).trans rfl
              have hcz48_6 : wc.cell? ⟨gb213, 6, none⟩ = some (.bool t210) := (blk_cell BK213.out 6).trans rfl
              have hcz48_7 : wc.cell? ⟨gb213, 7, none⟩ = some (.bool t211) := (blk_cell BK213.out 7).trans rfl
              have hfz48_0 := blk_frozen BK213.out 0
              have hfz48_1 := blk_frozen BK213.out 1
              have hfz48_2 := blk_frozen BK213.out 2
              have hfz48_3 := blk_frozen BK213.out 3
              have hfz48_4 := blk_frozen BK213.out 4
              have hfz48_5 := blk_frozen BK213.out 5
              have hfz48_6 := blk_frozen BK213.out 6
              have hfz48_7 := blk_frozen BK213.out 7
              go_upto_if 70 with (fail)
              go_cut [7] (fun v7 wc => ∃ (kq : Nat) (x7_42 : List (S33)), Aside0 (spec_Without.j2 kq x7_42 t196 t197 t198 t199 t200 t201 t202 t203 t204 t205 t206 t207 t208 t209 t210 t211 = some r) ∧ Aside0 (kq ≤ kj20) ∧ Aside0 (Kd.R k33 33 wc w.heap.size (fun k_ => k_ ≠ gb192 ∧ k_ ≠ gb193 ∧ k_ ≠ gb213) v7 x7_42) ∧ Aside0 (wc.heap[gb192]? = some (.cells #[.int .i64 t196, .int .i64 t197, .bool t198, .bool t199, .int .i64 t200, .int .i64 t201, .bool t202, .bool t203] 33 (0, 0))) ∧ Aside0 (wc.heap[gb193]? = some (.cells #[.int .i64 a1_0, .int .i64 a1_1, .bool a1_2, .bool a1_3, .int .i64 a1_4, .int .i64 a1_5, .bool a1_6, .bool a1_7] 33 (0, 0))) ∧ Aside0 (wc.heap[gb213]? = some (.cells #[.int .i64 t204, .int .i64 t205, .bool t206, .bool t207, .int .i64 t208, .int .i64 t209, .bool t210, .bool t211] 33 (0, 0))) ∧ Aside0 (Below w.heap.size w wc))
              case first =>
                have H := HC43.out
                clear HC43
                by_cases c49 : t200 > t208
                · rw [if_pos c49] at H
                  have c49b0 : decide (t208 < t200) = true := decide_eq_true c49
                  clear c49
                  (first | rw [c49b0] | (simp only [i64_w, i32_w]; rw [c49b0]) | skip)
                  replace H := Option.bind_eq_some_iff.mp H
                  obtain ⟨⟨t236, t237, t238, t239, t240, t241, t242, t243⟩, A500, H⟩ := H
                  replace H : (if x7_20.length < 2932031007402 then (spec_Without.j2 kj20 (x7_20 ++ [(⟨(⟨t236, t237, t238, t239⟩ : S31), (⟨t240, t241, t242, t243⟩ : S31)⟩ : S33)]) t196 t197 t198 t199 t200 t201 t202 t203 t204 t205 t206 t207 t208 t209 t210 t211) else (none)) = some r := H
                  have A50 := Aside0.mk A500
                  clear A500
                  by_cases c51 : x7_20.length < 2932031007402
                  · rw [if_pos c51] at H
                    have LMc51 := Aside0.mk c51
                    clear c51
                    obtain ⟨y244, hy244⟩ : ∃ y_ : List (S33), y_ = (x7_20 ++ [(⟨(⟨t236, t237, t238, t239⟩ : S31), (⟨t240, t241, t242, t243⟩ : S31)⟩ : S33)]) := ⟨_, rfl⟩
                    replace H : (spec_Without.j2 kj20 y244 t196 t197 t198 t199 t200 t201 t202 t203 t204 t205 t206 t207 t208 t209 t210 t211) = some r := by first | (rw [hy244]; with_reducible exact H) | (have H2_ := (Option.bind_some _ _).symm.trans H; rw [hy244]; with_reducible exact H2_) | (have H2_ := (Option.bind_some _ _).symm.trans H; with_reducible exact H2_) | with_reducible exact H | (rw [hy244]; exact H) | exact H
                    have Ny244 := Aside0.mk hy244
                    clear hy244
                    have H' := Aside0.mk H
                    clear H
                    have hnb52 := NB213_192.out
                    have hnc52 := NB192_213.out
                    have hnb53 := NB213_193.out
                    have hnc53 := NB193_213.out
                    have hcz54_0 : wc.cell? ⟨gb213, 0, none⟩ = some (.int .i64 t204) := (blk_cell BK213.out 0).trans rfl
                    have hcz54_1 : wc.cell? ⟨gb213, 1, none⟩ = some (.int .i64 t205) := (blk_cell BK213.out 1).trans rfl
                    have hcz54_2 : wc.cell? ⟨gb213, 2, none⟩ = some (.bool t206) := (blk_cell BK213.out 2).trans rfl
                    have hcz54_3 : wc.cell? ⟨gb213, 3, none⟩ = some (.bool t207) := (blk_cell BK213.out 3).trans rfl
                    have hcz54_4 : wc.cell? ⟨gb213, 4, none⟩ = some (.int .i64 t208) := (blk_cell BK213.out 4).trans rfl
                    have hcz54_5 : wc.cell? ⟨gb213, 5, none⟩ = some (.int .i64 t209) := (blk_cell BK213.out 5).trans rfl
                    have hcz54_6 : wc.cell? ⟨gb213, 6, none⟩ = some (.bool t210) := (blk_cell BK213.out 6).trans rfl
                    have hcz54_7 : wc.cell? ⟨gb213, 7, none⟩ = some (.bool t211) := (blk_cell BK213.out 7).trans rfl
                    have hfz54_0 := blk_frozen BK213.out 0
                    have hfz54_1 := blk_frozen BK213.out 1
                    have hfz54_2 := blk_frozen BK213.out 2
                    have hfz54_3 := blk_frozen BK213.out 3
                    have hfz54_4 := blk_frozen BK213.out 4
                    have hfz54_5 := blk_frozen BK213.out 5
                    have hfz54_6 := blk_frozen BK213.out 6
                    have hfz54_7 := blk_frozen BK213.out 7
                    have hnb55 := NB192_193.out
                    have hnc55 := NB193_192.out
                    have hcz56_0 : wc.cell? ⟨gb192, 0, none⟩ = some (.int .i64 t196) := (blk_cell BK192.out 0).trans rfl
                    have hcz56_1 : wc.cell? ⟨gb192, 1, none⟩ = some (.int .i64 t197) := (blk_cell BK192.out 1).trans rfl
                    have hcz56_2 : wc.cell? ⟨gb192, 2, none⟩ = some (.bool t198) := (blk_cell BK192.out 2).trans rfl
                    have hcz56_3 : wc.cell? ⟨gb192, 3, none⟩ = some (.bool t199) := (blk_cell BK192.out 3).trans rfl
                    have hcz56_4 : wc.cell? ⟨gb192, 4, none⟩ = some (.int .i64 t200) := (blk_cell BK192.out 4).trans rfl
                    have hcz56_5 : wc.cell? ⟨gb192, 5, none⟩ = some (.int .i64 t201) := (blk_cell BK192.out 5).trans rfl
                    have hcz56_6 : wc.cell? ⟨gb192, 6, none⟩ = some (.bool t202) := (blk_cell BK192.out 6).trans rfl
                    have hcz56_7 : wc.cell? ⟨gb192, 7, none⟩ = some (.bool t203) := (blk_cell BK192.out 7).trans rfl
                    have hfz56_0 := blk_frozen BK192.out 0
                    have hfz56_1 := blk_frozen BK192.out 1
                    have hfz56_2 := blk_frozen BK192.out 2
                    have hfz56_3 := blk_frozen BK192.out 3
                    have hfz56_4 := blk_frozen BK192.out 4
                    have hfz56_5 := blk_frozen BK192.out 5
                    have hfz56_6 := blk_frozen BK192.out 6
                    have hfz56_7 := blk_frozen BK192.out 7
                    go_wp2_with (first | ((with_reducible refine gate_callee (f := 53) rfl ?_); refine goesL_ (some 85) rfl rfl Try.func53 (by kernel_rfl) rfl #[.int .i64 (wrap64 (t208 + 1)), .int .i64 t197, .int .i64 t200, .int .i64 t201] rfl (by (try simp only [List.map_toArray, List.map_cons, List.map_nil]); first | done | rfl | (simp only [List.length_drop, List.length_take]; rfl)) ?_; (with_reducible refine (spec_l3Area.calls (wrap64 (t208 + 1)) t197 t200 t201 t236 t237 t238 t239 t240 t241 t242 t243 _ A50.out).mono ?_); rintro e w57 ⟨rfl, hb⟩; refine ⟨_, rfl, ?_⟩; have n0_ := Aside0.mk (Kd.R_below (by (with_reducible repeat (first | apply Kd.R_alloc | apply Kd.R_drewN | apply Kd.R_drew)); exact HO_7.out) hb); have n1_ := Aside0.mk (blk_below (g := gb192) (o := .cells #[.int .i64 t196, .int .i64 t197, .bool t198, .bool t199, .int .i64 t200, .int .i64 t201, .bool t202, .bool t203] 33 (0, 0)) (by (with_reducible repeat (first | refine blk_drewN ?_ _ | refine blk_drew ?_ | refine blk_alloc ?_ _)); exact BK192.out) hb); have n2_ := Aside0.mk (blk_below (g := gb193) (o := .cells #[.int .i64 a1_0, .int .i64 a1_1, .bool a1_2, .bool a1_3, .int .i64 a1_4, .int .i64 a1_5, .bool a1_6, .bool a1_7] 33 (0, 0)) (by (with_reducible repeat (first | refine blk_drewN ?_ _ | refine blk_drew ?_ | refine blk_alloc ?_ _)); exact BK193.out) hb); have n3_ := Aside0.mk (blk_below (g := gb213) (o := .cells #[.int .i64 t204, .int .i64 t205, .bool t206, .bool t207, .int .i64 t208, .int .i64 t209, .bool t210, .bool t211] 33 (0, 0)) (by (with_reducible repeat (first | refine blk_drewN ?_ _ | refine blk_drew ?_ | refine blk_alloc ?_ _)); exact BK213.out) hb); have n4_ := Aside0.mk (below_step (by repeat (first | (with_reducible first | exact HB.out | apply below_alloc | apply pw_below_drewN | apply below_drew1 | refine below_set ?_ GE192.out | refine below_set ?_ GE193.out | refine below_set ?_ GE213.out) | exact HB.out)) hb); clear HO_7; clear BK192; clear BK193; clear BK213; clear HB; have HO_7 := n0_; have BK192 := n1_; have BK193 := n2_; have BK213 := n3_; have HB := n4_; clear n0_ n1_ n2_ n3_ n4_; (try clear hb); (try clear hb2); (try clear hk); (try clear hi)) | ((with_reducible refine gate_builtin (b := .append) (xs := #[.tmp 71, .tmp 86]) rfl ?_); at_builtin; refine Kd.R_append k33 (w0 := w) w.heap.size rfl (.tmp 71) (.tmp 86) 38 33 (.agg #[(.int .i64 0), (.int .i64 0), (.bool false), (.bool false), (.int .i64 0), (.int .i64 0), (.bool false), (.bool false)]) 48 rfl Try.underlying38 info33 rfl (by decide) (by omega) u7 x7_20 (⟨(⟨t236, t237, t238, t239⟩ : S31), (⟨t240, t241, t242, t243⟩ : S31)⟩ : S33) [.int .i64 t236, .int .i64 t237, .bool t238, .bool t239, .int .i64 t240, .int .i64 t241, .bool t242, .bool t243] (fun k_ => k_ ≠ gb192 ∧ k_ ≠ gb193 ∧ k_ ≠ gb213) (fun _ => False) rfl rfl ?aP (fun _ hk => hk.elim) ?aF ?aO ?aB ?aS ?aL ?_; (case aP => exact k33_mkM _ _ _ (⟨(⟨t236, t237, t238, t239⟩ : S31), (⟨t240, t241, t242, t243⟩ : S31)⟩ : S33)); (case aB => exact (by repeat (first | (with_reducible first | exact HB.out | apply below_alloc | apply pw_below_drewN | apply below_drew1 | refine below_set ?_ GE192.out | refine below_set ?_ GE193.out | refine below_set ?_ GE213.out) | exact HB.out))); (case aF => exact (fun k_ hk => ⟨Kd.freshB (g := gb192) (o := .cells #[.int .i64 t196, .int .i64 t197, .bool t198, .bool t199, .int .i64 t200, .int .i64 t201, .bool t202, .bool t203] 33 (0, 0)) (by (with_reducible repeat (first | refine blk_drewN ?_ _ | refine blk_drew ?_ | refine blk_alloc ?_ _)); exact BK192.out) k_ hk, Kd.freshB (g := gb193) (o := .cells #[.int .i64 a1_0, .int .i64 a1_1, .bool a1_2, .bool a1_3, .int .i64 a1_4, .int .i64 a1_5, .bool a1_6, .bool a1_7] 33 (0, 0)) (by (with_reducible repeat (first | refine blk_drewN ?_ _ | refine blk_drew ?_ | refine blk_alloc ?_ _)); exact BK193.out) k_ hk, Kd.freshB (g := gb213) (o := .cells #[.int .i64 t204, .int .i64 t205, .bool t206, .bool t207, .int .i64 t208, .int .i64 t209, .bool t210, .bool t211] 33 (0, 0)) (by (with_reducible repeat (first | refine blk_drewN ?_ _ | refine blk_drew ?_ | refine blk_alloc ?_ _)); exact BK213.out) k_ hk⟩)); (case aO => exact (by (with_reducible repeat (first | apply Kd.R_alloc | apply Kd.R_drewN | apply Kd.R_drew)); exact HO_7.out)); (case aS => exact (below_size (by repeat (first | (with_reducible first | exact HB.out | apply below_alloc | apply pw_below_drewN | apply below_drew1 | refine below_set ?_ GE192.out | refine below_set ?_ GE193.out | refine below_set ?_ GE213.out) | exact HB.out)))); (case aL => have := LMc51.out; omega); intro v245 w58 ho hb hg hat; rw [← Ny244.out] at ho; have n0_ := Aside0.mk (blk_grown (g := gb192) (o := .cells #[.int .i64 t196, .int .i64 t197, .bool t198, .bool t199, .int .i64 t200, .int .i64 t201, .bool t202, .bool t203] 33 (0, 0)) (by (with_reducible repeat (first | refine blk_drewN ?_ _ | refine blk_drew ?_ | refine blk_alloc ?_ _)); exact BK192.out) hg (Kd.R_away HO_7.out (fun _ hk => hk.1))); have n1_ := Aside0.mk (blk_grown (g := gb193) (o := .cells #[.int .i64 a1_0, .int .i64 a1_1, .bool a1_2, .bool a1_3, .int .i64 a1_4, .int .i64 a1_5, .bool a1_6, .bool a1_7] 33 (0, 0)) (by (with_reducible repeat (first | refine blk_drewN ?_ _ | refine blk_drew ?_ | refine blk_alloc ?_ _)); exact BK193.out) hg (Kd.R_away HO_7.out (fun _ hk => hk.2.1))); have n2_ := Aside0.mk (blk_grown (g := gb213) (o := .cells #[.int .i64 t204, .int .i64 t205, .bool t206, .bool t207, .int .i64 t208, .int .i64 t209, .bool t210, .bool t211] 33 (0, 0)) (by (with_reducible repeat (first | refine blk_drewN ?_ _ | refine blk_drew ?_ | refine blk_alloc ?_ _)); exact BK213.out) hg (Kd.R_away HO_7.out (fun _ hk => hk.2.2))); have n3_ := Aside0.mk (hb); have n4_ := Aside0.mk (ho); clear BK192; clear BK193; clear BK213; clear HB; clear HO_7; have BK192 := n0_; have BK193 := n1_; have BK213 := n2_; have HB := n3_; have HO246 := n4_; clear n0_ n1_ n2_ n3_ n4_; clear ho hb hg hat))
                    go_meet
                    case rel => exact ⟨_, (y244), H', ⟨by have := HJ2.out; have := HJ20.out; first | omega | exact Nat.le_refl _⟩, ⟨by (with_reducible repeat (first | apply Kd.R_alloc | apply Kd.R_drewN | apply Kd.R_drew)); exact HO246.out⟩, ⟨by (with_reducible repeat (first | refine blk_drewN ?_ _ | refine blk_drew ?_ | refine blk_alloc ?_ _)); exact BK192.out⟩, ⟨by (with_reducible repeat (first | refine blk_drewN ?_ _ | refine blk_drew ?_ | refine blk_alloc ?_ _)); exact BK193.out⟩, ⟨by (with_reducible repeat (first | refine blk_drewN ?_ _ | refine blk_drew ?_ | refine blk_alloc ?_ _)); exact BK213.out⟩, ⟨by repeat (first | (with_reducible first | exact HB.out | apply below_alloc | apply pw_below_drewN | apply below_drew1 | refine below_set ?_ GE192.out | refine below_set ?_ GE193.out | refine below_set ?_ GE213.out) | exact HB.out)⟩⟩
                  · rw [if_neg c51] at H
                    exact absurd H (by simp)
                · rw [if_neg c49] at H
                  have c49b0 : decide (t208 < t200) = false := decide_eq_false c49
                  clear c49
                  (first | rw [c49b0] | (simp only [i64_w, i32_w]; rw [c49b0]) | skip)
                  have H' := Aside0.mk H
                  clear H
                  go_wp2
                  go_meet
                  case rel => exact ⟨_, (x7_20), H', ⟨by have := HJ2.out; have := HJ20.out; first | omega | exact Nat.le_refl _⟩, ⟨by (with_reducible repeat (first | apply Kd.R_alloc | apply Kd.R_drewN | apply Kd.R_drew)); exact HO_7.out⟩, ⟨by (with_reducible repeat (first | refine blk_drewN ?_ _ | refine blk_drew ?_ | refine blk_alloc ?_ _)); exact BK192.out⟩, ⟨by (with_reducible repeat (first | refine blk_drewN ?_ _ | refine blk_drew ?_ | refine blk_alloc ?_ _)); exact BK193.out⟩, ⟨by (with_reducible repeat (first | refine blk_drewN ?_ _ | refine blk_drew ?_ | refine blk_alloc ?_ _)); exact BK213.out⟩, ⟨by repeat (first | (with_reducible first | exact HB.out | apply below_alloc | apply pw_below_drewN | apply below_drew1 | refine below_set ?_ GE192.out | refine below_set ?_ GE193.out | refine below_set ?_ GE213.out) | exact HB.out)⟩⟩
              case rest =>
                clear HC43
                try clear c1
                try clear c2
                try clear p2
                try clear c3
                try clear c4
                try clear c5
                try clear p6
                try clear c7
                try clear c9
                try clear c14
                try clear c16
                try clear c17
                try clear c20
                try clear c22
                try clear c29
                try clear c30
                try clear c33
                try clear c33b0
                try clear c35
                try clear c36
                try clear c37
                try clear c39
                try clear c44
                try clear c45
                try clear c47
                try clear c49
                try clear c49b0
                try clear c51
                try clear c52
                try clear c53
                try clear c55
                try clear hcz10_0
                try clear hcz10_1
                try clear hcz10_2
                try clear hcz10_3
                try clear hcz10_4
                try clear hcz10_5
                try clear hcz10_6
                try clear hcz10_7
                try clear hcz12_0
                try clear hcz12_1
                try clear hcz12_2
                try clear hcz12_3
                try clear hcz12_4
                try clear hcz12_5
                try clear hcz12_6
                try clear hcz12_7
                try clear hcz15_0
                try clear hcz15_1
                try clear hcz15_2
                try clear hcz15_3
                try clear hcz15_4
                try clear hcz15_5
                try clear hcz15_6
                try clear hcz15_7
                try clear hcz23_0
                try clear hcz23_1
                try clear hcz23_2
                try clear hcz23_3
                try clear hcz23_4
                try clear hcz23_5
                try clear hcz23_6
                try clear hcz23_7
                try clear hcz25_0
                try clear hcz25_1
                try clear hcz25_2
                try clear hcz25_3
                try clear hcz25_4
                try clear hcz25_5
                try clear hcz25_6
                try clear hcz25_7
                try clear hcz26_0
                try clear hcz26_1
                try clear hcz26_2
                try clear hcz26_3
                try clear hcz26_4
                try clear hcz26_5
                try clear hcz26_6
                try clear hcz26_7
                try clear hcz31_0
                try clear hcz31_1
                try clear hcz31_2
                try clear hcz31_3
                try clear hcz31_4
                try clear hcz31_5
                try clear hcz31_6
                try clear hcz31_7
                try clear hcz32_0
                try clear hcz32_1
                try clear hcz32_2
                try clear hcz32_3
                try clear hcz32_4
                try clear hcz32_5
                try clear hcz32_6
                try clear hcz32_7
                try clear hcz38_0
                try clear hcz38_1
                try clear hcz38_2
                try clear hcz38_3
                try clear hcz38_4
                try clear hcz38_5
                try clear hcz38_6
                try clear hcz38_7
                try clear hcz40_0
                try clear hcz40_1
                try clear hcz40_2
                try clear hcz40_3
                try clear hcz40_4
                try clear hcz40_5
                try clear hcz40_6
                try clear hcz40_7
                try clear hcz46_0
                try clear hcz46_1
                try clear hcz46_2
                try clear hcz46_3
                try clear hcz46_4
                try clear hcz46_5
                try clear hcz46_6
                try clear hcz46_7
                try clear hcz48_0
                try clear hcz48_1
                try clear hcz48_2
                try clear hcz48_3
                try clear hcz48_4
                try clear hcz48_5
                try clear hcz48_6
                try clear hcz48_7
                try clear hcz54_0
                try clear hcz54_1
                try clear hcz54_2
                try clear hcz54_3
                try clear hcz54_4
                try clear hcz54_5
                try clear hcz54_6
                try clear hcz54_7
                try clear hcz56_0
                try clear hcz56_1
                try clear hcz56_2
                try clear hcz56_3
                try clear hcz56_4
                try clear hcz56_5
                try clear hcz56_6
                try clear hcz56_7
                try clear hfz10_0
                try clear hfz10_1
                try clear hfz10_2
                try clear hfz10_3
                try clear hfz10_4
                try clear hfz10_5
                try clear hfz10_6
                try clear hfz10_7
                try clear hfz12_0
                try clear hfz12_1
                try clear hfz12_2
                try clear hfz12_3
                try clear hfz12_4
                try clear hfz12_5
                try clear hfz12_6
                try clear hfz12_7
                try clear hfz15_0
                try clear hfz15_1
                try clear hfz15_2
                try clear hfz15_3
                try clear hfz15_4
                try clear hfz15_5
                try clear hfz15_6
                try clear hfz15_7
                try clear hfz23_0
                try clear hfz23_1
                try clear hfz23_2
                try clear hfz23_3
                try clear hfz23_4
                try clear hfz23_5
                try clear hfz23_6
                try clear hfz23_7
                try clear hfz25_0
                try clear hfz25_1
                try clear hfz25_2
                try clear hfz25_3
                try clear hfz25_4
                try clear hfz25_5
                try clear hfz25_6
                try clear hfz25_7
                try clear hfz26_0
                try clear hfz26_1
                try clear hfz26_2
                try clear hfz26_3
                try clear hfz26_4
                try clear hfz26_5
                try clear hfz26_6
                try clear hfz26_7
                try clear hfz31_0
                try clear hfz31_1
                try clear hfz31_2
                try clear hfz31_3
                try clear hfz31_4
                try clear hfz31_5
                try clear hfz31_6
                try clear hfz31_7
                try clear hfz32_0
                try clear hfz32_1
                try clear hfz32_2
                try clear hfz32_3
                try clear hfz32_4
                try clear hfz32_5
                try clear hfz32_6
                try clear hfz32_7
                try clear hfz38_0
                try clear hfz38_1
                try clear hfz38_2
                try clear hfz38_3
                try clear hfz38_4
                try clear hfz38_5
                try clear hfz38_6
                try clear hfz38_7
                try clear hfz40_0
                try clear hfz40_1
                try clear hfz40_2
                try clear hfz40_3
                try clear hfz40_4
                try clear hfz40_5
                try clear hfz40_6
                try clear hfz40_7
                try clear hfz46_0
                try clear hfz46_1
                try clear hfz46_2
                try clear hfz46_3
                try clear hfz46_4
                try clear hfz46_5
                try clear hfz46_6
                try clear hfz46_7
                try clear hfz48_0
                try clear hfz48_1
                try clear hfz48_2
                try clear hfz48_3
                try clear hfz48_4
                try clear hfz48_5
                try clear hfz48_6
                try clear hfz48_7
                try clear hfz54_0
                try clear hfz54_1
                try clear hfz54_2
                try clear hfz54_3
                try clear hfz54_4
                try clear hfz54_5
                try clear hfz54_6
                try clear hfz54_7
                try clear hfz56_0
                try clear hfz56_1
                try clear hfz56_2
                try clear hfz56_3
                try clear hfz56_4
                try clear hfz56_5
                try clear hfz56_6
                try clear hfz56_7
                try clear p2
                try clear p6
                obtain ⟨kq, x7_42, HA, HJ42, HO_7, BK192, BK193, BK213, HB⟩ := hcut
                cases kq with
                | zero => exact absurd HA.out (by simp [spec_Without.j2])
                | succ kj42 =>
                  have H := HA.out
                  clear HA
                  simp only [spec_Without.j2] at H
                  by_cases c59 : t197 < t205
                  · rw [if_pos c59] at H
                    have c59b0 : decide (t197 < t205) = true := decide_eq_true c59
                    clear c59
                    replace H := Option.bind_eq_some_iff.mp H
                    obtain ⟨⟨t247, t248, t249, t250, t251, t252, t253, t254⟩, A600, H⟩ := H
                    replace H : (if x7_42.length < 2932031007402 then ((some (x7_42 ++ [(⟨(⟨t247, t248, t249, t250⟩ : S31), (⟨t251, t252, t253, t254⟩ : S31)⟩ : S33)] : List (S33))).bind fun y255 => (if t201 > t209 then ((spec_l3Area.f t204 (wrap64 (t209 + 1)) t208 t201).bind fun bt258 => (if y255.length < 2932031007402 then (some (y255 ++ [(⟨(⟨bt258.1, bt258.2.1, bt258.2.2.1, bt258.2.2.2.1⟩ : S31), (⟨bt258.2.2.2.2.1, bt258.2.2.2.2.2.1, bt258.2.2.2.2.2.2.1, bt258.2.2.2.2.2.2.2⟩ : S31)⟩ : S33)])) else (none))) else (some y255))) else (none)) = some r := H
                    have A60 := Aside0.mk A600
                    clear A600
                    by_cases c61 : x7_42.length < 2932031007402
                    · rw [if_pos c61] at H
                      have LMc61 := Aside0.mk c61
                      clear c61
                      obtain ⟨y255, hy255⟩ : ∃ y_ : List (S33), y_ = (x7_42 ++ [(⟨(⟨t247, t248, t249, t250⟩ : S31), (⟨t251, t252, t253, t254⟩ : S31)⟩ : S33)]) := ⟨_, rfl⟩
                      replace H : (if t201 > t209 then ((spec_l3Area.f t204 (wrap64 (t209 + 1)) t208 t201).bind fun bt258 => (if y255.length < 2932031007402 then (some (y255 ++ [(⟨(⟨bt258.1, bt258.2.1, bt258.2.2.1, bt258.2.2.2.1⟩ : S31), (⟨bt258.2.2.2.2.1, bt258.2.2.2.2.2.1, bt258.2.2.2.2.2.2.1, bt258.2.2.2.2.2.2.2⟩ : S31)⟩ : S33)])) else (none))) else (some y255)) = some r := by first | (rw [hy255]; with_reducible exact H) | (have H2_ := (Option.bind_some _ _).symm.trans H; rw [hy255]; with_reducible exact H2_) | (have H2_ := (Option.bind_some _ _).symm.trans H; with_reducible exact H2_) | with_reducible exact H | (rw [hy255]; exact H) | exact H
                      have Ny255 := Aside0.mk hy255
                      clear hy255
                      by_cases c62 : t201 > t209
                      · rw [if_pos c62] at H
                        have c62b0 : decide (t209 < t201) = true := decide_eq_true c62
                        clear c62
                        replace H := Option.bind_eq_some_iff.mp H
                        obtain ⟨⟨t258, t259, t260, t261, t262, t263, t264, t265⟩, A630, H⟩ := H
                        replace H : (if y255.length < 2932031007402 then (some (y255 ++ [(⟨(⟨t258, t259, t260, t261⟩ : S31), (⟨t262, t263, t264, t265⟩ : S31)⟩ : S33)])) else (none)) = some r := H
                        have A63 := Aside0.mk A630
                        clear A630
                        by_cases c64 : y255.length < 2932031007402
                        · rw [if_pos c64] at H
                          have LMc64 := Aside0.mk c64
                          clear c64
                          obtain ⟨y266, hy266⟩ : ∃ y_ : List (S33), y_ = (y255 ++ [(⟨(⟨t258, t259, t260, t261⟩ : S31), (⟨t262, t263, t264, t265⟩ : S31)⟩ : S33)]) := ⟨_, rfl⟩
                          replace H : (some y266) = some r := by first | (rw [hy266]; with_reducible exact H) | (have H2_ := (Option.bind_some _ _).symm.trans H; rw [hy266]; with_reducible exact H2_) | (have H2_ := (Option.bind_some _ _).symm.trans H; with_reducible exact H2_) | with_reducible exact H | (rw [hy266]; exact H) | exact H
                          have Ny266 := Aside0.mk hy266
                          clear hy266
                          obtain rfl := Option.some.inj H
                          have hnb65 := NB192_193.out
                          have hnc65 := NB193_192.out
                          have hnb66 := NB192_213.out
                          have hnc66 := NB213_192.out
                          have hcz67_0 : wc.cell? ⟨gb192, 0, none⟩ = some (.int .i64 t196) := (blk_cell BK192.out 0).trans rfl
                          have hcz67_1 : wc.cell? ⟨gb192, 1, none⟩ = some (.int .i64 t197) := (blk_cell BK192.out 1).trans rfl
                          have hcz67_2 : wc.cell? ⟨gb192, 2, none⟩ = some (.bool t198) := (blk_cell BK192.out 2).trans rfl
                          have hcz67_3 : wc.cell? ⟨gb192, 3, none⟩ = some (.bool t199) := (blk_cell BK192.out 3).trans rfl
                          have hcz67_4 : wc.cell? ⟨gb192, 4, none⟩ = some (.int .i64 t200) := (blk_cell BK192.out 4).trans rfl
                          have hcz67_5 : wc.cell? ⟨gb192, 5, none⟩ = some (.int .i64 t201) := (blk_cell BK192.out 5).trans rfl
                          have hcz67_6 : wc.cell? ⟨gb192, 6, none⟩ = some (.bool t202) := (blk_cell BK192.out 6).trans rfl
                          have hcz67_7 : wc.cell? ⟨gb192, 7, none⟩ = some (.bool t203) := (blk_cell BK192.out 7).trans rfl
                          have hfz67_0 := blk_frozen BK192.out 0
                          have hfz67_1 := blk_frozen BK192.out 1
                          have hfz67_2 := blk_frozen BK192.out 2
                          have hfz67_3 := blk_frozen BK192.out 3
                          have hfz67_4 := blk_frozen BK192.out 4
                          have hfz67_5 := blk_frozen BK192.out 5
                          have hfz67_6 := blk_frozen BK192.out 6
                          have hfz67_7 := blk_frozen BK192.out 7
                          have hnb68 := NB213_193.out
                          have hnc68 := NB193_213.out
                          have hcz69_0 : wc.cell? ⟨gb213, 0, none⟩ = some (.int .i64 t204) := (blk_cell BK213.out 0).trans rfl
                          have hcz69_1 : wc.cell? ⟨gb213, 1, none⟩ = some (.int .i64 t205) := (blk_cell BK213.out 1).trans rfl
                          have hcz69_2 : wc.cell? ⟨gb213, 2, none⟩ = some (.bool t206) := (blk_cell BK213.out 2).trans rfl
                          have hcz69_3 : wc.cell? ⟨gb213, 3, none⟩ = some (.bool t207) := (blk_cell BK213.out 3).trans rfl
                          have hcz69_4 : wc.cell? ⟨gb213, 4, none⟩ = some (.int .i64 t208) := (blk_cell BK213.out 4).trans rfl
                          have hcz69_5 : wc.cell? ⟨gb213, 5, none⟩ = some (.int .i64 t209) := (blk_cell BK213.out 5).trans rfl
                          have hcz69_6 : wc.cell? ⟨gb213, 6, none⟩ = some (.bool t210) := (blk_cell BK213.out 6).trans rfl
                          have hcz69_7 : wc.cell? ⟨gb213, 7, none⟩ = some (.bool t211) := (blk_cell BK213.out 7).trans rfl
                          have hfz69_0 := blk_frozen BK213.out 0
                          have hfz69_1 := blk_frozen BK213.out 1
                          have hfz69_2 := blk_frozen BK213.out 2
                          have hfz69_3 := blk_frozen BK213.out 3
                          have hfz69_4 := blk_frozen BK213.out 4
                          have hfz69_5 := blk_frozen BK213.out 5
                          have hfz69_6 := blk_frozen BK213.out 6
                          have hfz69_7 := blk_frozen BK213.out 7
                          go_wp2_with (first | ((with_reducible refine gate_callee (f := 53) rfl ?_); refine goesL_ (some 109) rfl rfl Try.func53 (by kernel_rfl) rfl #[.int .i64 t204, .int .i64 t197, .int .i64 t208, .int .i64 (wrap64 (t205 - 1))] rfl (by (try simp only [List.map_toArray, List.map_cons, List.map_nil]); first | done | rfl | (simp only [List.length_drop, List.length_take]; rfl)) ?_; (with_reducible refine (spec_l3Area.calls t204 t197 t208 (wrap64 (t205 - 1)) t247 t248 t249 t250 t251 t252 t253 t254 _ A60.out).mono ?_); rintro e w70 ⟨rfl, hb⟩; refine ⟨_, rfl, ?_⟩; have n0_ := Aside0.mk (Kd.R_below (by (with_reducible repeat (first | apply Kd.R_alloc | apply Kd.R_drewN | apply Kd.R_drew)); exact HO_7.out) hb); have n1_ := Aside0.mk (blk_below (g := gb192) (o := .cells #[.int .i64 t196, .int .i64 t197, .bool t198, .bool t199, .int .i64 t200, .int .i64 t201, .bool t202, .bool t203] 33 (0, 0)) (by (with_reducible repeat (first | refine blk_drewN ?_ _ | refine blk_drew ?_ | refine blk_alloc ?_ _)); exact BK192.out) hb); have n2_ := Aside0.mk (blk_below (g := gb193) (o := .cells #[.int .i64 a1_0, .int .i64 a1_1, .bool a1_2, .bool a1_3, .int .i64 a1_4, .int .i64 a1_5, .bool a1_6, .bool a1_7] 33 (0, 0)) (by (with_reducible repeat (first | refine blk_drewN ?_ _ | refine blk_drew ?_ | refine blk_alloc ?_ _)); exact BK193.out) hb); have n3_ := Aside0.mk (blk_below (g := gb213) (o := .cells #[.int .i64 t204, .int .i64 t205, .bool t206, .bool t207, .int .i64 t208, .int .i64 t209, .bool t210, .bool t211] 33 (0, 0)) (by (with_reducible repeat (first | refine blk_drewN ?_ _ | refine blk_drew ?_ | refine blk_alloc ?_ _)); exact BK213.out) hb); have n4_ := Aside0.mk (below_step (by repeat (first | (with_reducible first | exact HB.out | apply below_alloc | apply pw_below_drewN | apply below_drew1 | refine below_set ?_ GE192.out | refine below_set ?_ GE193.out | refine below_set ?_ GE213.out) | exact HB.out)) hb); clear HO_7; clear BK192; clear BK193; clear BK213; clear HB; have HO_7 := n0_; have BK192 := n1_; have BK193 := n2_; have BK213 := n3_; have HB := n4_; clear n0_ n1_ n2_ n3_ n4_; (try clear hb); (try clear hb2); (try clear hk); (try clear hi)) | ((with_reducible refine gate_builtin (b := .append) (xs := #[.tmp 95, .tmp 110]) rfl ?_); at_builtin; refine Kd.R_append k33 (w0 := w) w.heap.size rfl (.tmp 95) (.tmp 110) 38 33 (.agg #[(.int .i64 0), (.int .i64 0), (.bool false), (.bool false), (.int .i64 0), (.int .i64 0), (.bool false), (.bool false)]) 48 rfl Try.underlying38 info33 rfl (by decide) (by omega) u7 x7_42 (⟨(⟨t247, t248, t249, t250⟩ : S31), (⟨t251, t252, t253, t254⟩ : S31)⟩ : S33) [.int .i64 t247, .int .i64 t248, .bool t249, .bool t250, .int .i64 t251, .int .i64 t252, .bool t253, .bool t254] (fun k_ => k_ ≠ gb192 ∧ k_ ≠ gb193 ∧ k_ ≠ gb213) (fun _ => False) rfl rfl ?aP (fun _ hk => hk.elim) ?aF ?aO ?aB ?aS ?aL ?_; (case aP => exact k33_mkM _ _ _ (⟨(⟨t247, t248, t249, t250⟩ : S31), (⟨t251, t252, t253, t254⟩ : S31)⟩ : S33)); (case aB => exact (by repeat (first | (with_reducible first | exact HB.out | apply below_alloc | apply pw_below_drewN | apply below_drew1 | refine below_set ?_ GE192.out | refine below_set ?_ GE193.out | refine below_set ?_ GE213.out) | exact HB.out))); (case aF => exact (fun k_ hk => ⟨Kd.freshB (g := gb192) (o := .cells #[.int .i64 t196, .int .i64 t197, .bool t198, .bool t199, .int .i64 t200, .int .i64 t201, .bool t202, .bool t203] 33 (0, 0)) (by (with_reducible repeat (first | refine blk_drewN ?_ _ | refine blk_drew ?_ | refine blk_alloc ?_ _)); exact BK192.out) k_ hk, Kd.freshB (g := gb193) (o := .cells #[.int .i64 a1_0, .int .i64 a1_1, .bool a1_2, .bool a1_3, .int .i64 a1_4, .int .i64 a1_5, .bool a1_6, .bool a1_7] 33 (0, 0)) (by (with_reducible repeat (first | refine blk_drewN ?_ _ | refine blk_drew ?_ | refine blk_alloc ?_ _)); exact BK193.out) k_ hk, Kd.freshB (g := gb213) (o := .cells #[.int .i64 t204, .int .i64 t205, .bool t206, .bool t207, .int .i64 t208, .int .i64 t209, .bool t210, .bool t211] 33 (0, 0)) (by (with_reducible repeat (first | refine blk_drewN ?_ _ | refine blk_drew ?_ | refine blk_alloc ?_ _)); exact BK213.out) k_ hk⟩)); (case aO => exact (by (with_reducible repeat (first | apply Kd.R_alloc | apply Kd.R_drewN | apply Kd.R_drew)); exact HO_7.out)); (case aS => exact (below_size (by repeat (first | (with_reducible first | exact HB.out | apply below_alloc | apply pw_below_drewN | apply below_drew1 | refine below_set ?_ GE192.out | refine below_set ?_ GE193.out | refine below_set ?_ GE213.out) | exact HB.out)))); (case aL => have := LMc61.out; omega); intro v256 w71 ho hb hg hat; rw [← Ny255.out] at ho; have n0_ := Aside0.mk (blk_grown (g := gb192) (o := .cells #[.int .i64 t196, .int .i64 t197, .bool t198, .bool t199, .int .i64 t200, .int .i64 t201, .bool t202, .bool t203] 33 (0, 0)) (by (with_reducible repeat (first | refine blk_drewN ?_ _ | refine blk_drew ?_ | refine blk_alloc ?_ _)); exact BK192.out) hg (Kd.R_away HO_7.out (fun _ hk => hk.1))); have n1_ := Aside0.mk (blk_grown (g := gb193) (o := .cells #[.int .i64 a1_0, .int .i64 a1_1, .bool a1_2, .bool a1_3, .int .i64 a1_4, .int .i64 a1_5, .bool a1_6, .bool a1_7] 33 (0, 0)) (by (with_reducible repeat (first | refine blk_drewN ?_ _ | refine blk_drew ?_ | refine blk_alloc ?_ _)); exact BK193.out) hg (Kd.R_away HO_7.out (fun _ hk => hk.2.1))); have n2_ := Aside0.mk (blk_grown (g := gb213) (o := .cells #[.int .i64 t204, .int .i64 t205, .bool t206, .bool t207, .int .i64 t208, .int .i64 t209, .bool t210, .bool t211] 33 (0, 0)) (by (with_reducible repeat (first | refine blk_drewN ?_ _ | refine blk_drew ?_ | refine blk_alloc ?_ _)); exact BK213.out) hg (Kd.R_away HO_7.out (fun _ hk => hk.2.2))); have n3_ := Aside0.mk (hb); have n4_ := Aside0.mk (ho); clear BK192; clear BK193; clear BK213; clear HB; clear HO_7; have BK192 := n0_; have BK193 := n1_; have BK213 := n2_; have HB := n3_; have HO257 := n4_; clear n0_ n1_ n2_ n3_ n4_; clear ho hb hg hat; have hcz72_0 : w71.cell? ⟨gb192, 0, none⟩ = some (.int .i64 t196) := (blk_cell BK192.out 0).trans rfl; have hcz72_1 : w71.cell? ⟨gb192, 1, none⟩ = some (.int .i64 t197) := (blk_cell BK192.out 1).trans rfl; have hcz72_2 : w71.cell? ⟨gb192, 2, none⟩ = some (.bool t198) := (blk_cell BK192.out 2).trans rfl; have hcz72_3 : w71.cell? ⟨gb192, 3, none⟩ = some (.bool t199) := (blk_cell BK192.out 3).trans rfl; have hcz72_4 : w71.cell? ⟨gb192, 4, none⟩ = some (.int .i64 t200) := (blk_cell BK192.out 4).trans rfl; have hcz72_5 : w71.cell? ⟨gb192, 5, none⟩ = some (.int .i64 t201) := (blk_cell BK192.out 5).trans rfl; have hcz72_6 : w71.cell? ⟨gb192, 6, none⟩ = some (.bool t202) := (blk_cell BK192.out 6).trans rfl; have hcz72_7 : w71.cell? ⟨gb192, 7, none⟩ = some (.bool t203) := (blk_cell BK192.out 7).trans rfl; have hfz72_0 := blk_frozen BK192.out 0; have hfz72_1 := blk_frozen BK192.out 1; have hfz72_2 := blk_frozen BK192.out 2; have hfz72_3 := blk_frozen BK192.out 3; have hfz72_4 := blk_frozen BK192.out 4; have hfz72_5 := blk_frozen BK192.out 5; have hfz72_6 := blk_frozen BK192.out 6; have hfz72_7 := blk_frozen BK192.out 7; have hcz73_0 : w71.cell? ⟨gb213, 0, none⟩ = some (.int .i64 t204) := (blk_cell BK213.out 0).trans rfl; have hcz73_1 : w71.cell? ⟨gb213, 1, none⟩ = some (.int .i64 t205) := (blk_cell BK213.out 1).trans rfl; have hcz73_2 : w71.cell? ⟨gb213, 2, none⟩ = some (.bool t206) := (blk_cell BK213.out 2).trans rfl; have hcz73_3 : w71.cell? ⟨gb213, 3, none⟩ = some (.bool t207) := (blk_cell BK213.out 3).trans rfl; have hcz73_4 : w71.cell? ⟨gb213, 4, none⟩ = some (.int .i64 t208) := (blk_cell BK213.out 4).trans rfl; have hcz73_5 : w71.cell? ⟨gb213, 5, none⟩ = some (.int .i64 t209) := (blk_cell BK213.out 5).trans rfl; have hcz73_6 : w71.cell? ⟨gb213, 6, none⟩ = some (.bool t210) := (blk_cell BK213.out 6).trans rfl; have hcz73_7 : w71.cell? ⟨gb213, 7, none⟩ = some (.bool t211) := (blk_cell BK213.out 7).trans rfl; have hfz73_0 := blk_frozen BK213.out 0; have hfz73_1 := blk_frozen BK213.out 1; have hfz73_2 := blk_frozen BK213.out 2; have hfz73_3 := blk_frozen BK213.out 3; have hfz73_4 := blk_frozen BK213.out 4; have hfz73_5 := blk_frozen BK213.out 5; have hfz73_6 := blk_frozen BK213.out 6; have hfz73_7 := blk_frozen BK213.out 7) | ((with_reducible refine gate_callee (f := 53) rfl ?_); refine goesL_ (some 133) rfl rfl Try.func53 (by kernel_rfl) rfl #[.int .i64 t204, .int .i64 (wrap64 (t209 + 1)), .int .i64 t208, .int .i64 t201] rfl (by (try simp only [List.map_toArray, List.map_cons, List.map_nil]); first | done | rfl | (simp only [List.length_drop, List.length_take]; rfl)) ?_; (with_reducible refine (spec_l3Area.calls t204 (wrap64 (t209 + 1)) t208 t201 t258 t259 t260 t261 t262 t263 t264 t265 _ A63.out).mono ?_); rintro e w74 ⟨rfl, hb⟩; refine ⟨_, rfl, ?_⟩; have n0_ := Aside0.mk (Kd.R_below (by (with_reducible repeat (first | apply Kd.R_alloc | apply Kd.R_drewN | apply Kd.R_drew)); exact HO257.out) hb); have n1_ := Aside0.mk (blk_below (g := gb192) (o := .cells #[.int .i64 t196, .int .i64 t197, .bool t198, .bool t199, .int .i64 t200, .int .i64 t201, .bool t202, .bool t203] 33 (0, 0)) (by (with_reducible repeat (first | refine blk_drewN ?_ _ | refine blk_drew ?_ | refine blk_alloc ?_ _)); exact BK192.out) hb); have n2_ := Aside0.mk (blk_below (g := gb193) (o := .cells #[.int .i64 a1_0, .int .i64 a1_1, .bool a1_2, .bool a1_3, .int .i64 a1_4, .int .i64 a1_5, .bool a1_6, .bool a1_7] 33 (0, 0)) (by (with_reducible repeat (first | refine blk_drewN ?_ _ | refine blk_drew ?_ | refine blk_alloc ?_ _)); exact BK193.out) hb); have n3_ := Aside0.mk (blk_below (g := gb213) (o := .cells #[.int .i64 t204, .int .i64 t205, .bool t206, .bool t207, .int .i64 t208, .int .i64 t209, .bool t210, .bool t211] 33 (0, 0)) (by (with_reducible repeat (first | refine blk_drewN ?_ _ | refine blk_drew ?_ | refine blk_alloc ?_ _)); exact BK213.out) hb); have n4_ := Aside0.mk (below_step (by repeat (first | (with_reducible first | exact HB.out | apply below_alloc | apply pw_below_drewN | apply below_drew1 | refine below_set ?_ GE192.out | refine below_set ?_ GE193.out | refine below_set ?_ GE213.out) | exact HB.out)) hb); clear HO257; clear BK192; clear BK193; clear BK213; clear HB; have HO257 := n0_; have BK192 := n1_; have BK193 := n2_; have BK213 := n3_; have HB := n4_; clear n0_ n1_ n2_ n3_ n4_; (try clear hb); (try clear hb2); (try clear hk); (try clear hi)) | ((with_reducible refine gate_builtin (b := .append) (xs := #[.tmp 119, .tmp 134]) rfl ?_); at_builtin; refine Kd.R_append k33 (w0 := w) w.heap.size rfl (.tmp 119) (.tmp 134) 38 33 (.agg #[(.int .i64 0), (.int .i64 0), (.bool false), (.bool false), (.int .i64 0), (.int .i64 0), (.bool false), (.bool false)]) 48 rfl Try.underlying38 info33 rfl (by decide) (by omega) v256 y255 (⟨(⟨t258, t259, t260, t261⟩ : S31), (⟨t262, t263, t264, t265⟩ : S31)⟩ : S33) [.int .i64 t258, .int .i64 t259, .bool t260, .bool t261, .int .i64 t262, .int .i64 t263, .bool t264, .bool t265] (fun k_ => k_ ≠ gb192 ∧ k_ ≠ gb193 ∧ k_ ≠ gb213) (fun _ => False) rfl rfl ?aP (fun _ hk => hk.elim) ?aF ?aO ?aB ?aS ?aL ?_; (case aP => exact k33_mkM _ _ _ (⟨(⟨t258, t259, t260, t261⟩ : S31), (⟨t262, t263, t264, t265⟩ : S31)⟩ : S33)); (case aB => exact (by repeat (first | (with_reducible first | exact HB.out | apply below_alloc | apply pw_below_drewN | apply below_drew1 | refine below_set ?_ GE192.out | refine below_set ?_ GE193.out | refine below_set ?_ GE213.out) | exact HB.out))); (case aF => exact (fun k_ hk => ⟨Kd.freshB (g := gb192) (o := .cells #[.int .i64 t196, .int .i64 t197, .bool t198, .bool t199, .int .i64 t200, .int .i64 t201, .bool t202, .bool t203] 33 (0, 0)) (by (with_reducible repeat (first | refine blk_drewN ?_ _ | refine blk_drew ?_ | refine blk_alloc ?_ _)); exact BK192.out) k_ hk, Kd.freshB (g := gb193) (o := .cells #[.int .i64 a1_0, .int .i64 a1_1, .bool a1_2, .bool a1_3, .int .i64 a1_4, .int .i64 a1_5, .bool a1_6, .bool a1_7] 33 (0, 0)) (by (with_reducible repeat (first | refine blk_drewN ?_ _ | refine blk_drew ?_ | refine blk_alloc ?_ _)); exact BK193.out) k_ hk, Kd.freshB (g := gb213) (o := .cells #[.int .i64 t204, .int .i64 t205, .bool t206, .bool t207, .int .i64 t208, .int .i64 t209, .bool t210, .bool t211] 33 (0, 0)) (by (with_reducible repeat (first | refine blk_drewN ?_ _ | refine blk_drew ?_ | refine blk_alloc ?_ _)); exact BK213.out) k_ hk⟩)); (case aO => exact (by (with_reducible repeat (first | apply Kd.R_alloc | apply Kd.R_drewN | apply Kd.R_drew)); exact HO257.out)); (case aS => exact (below_size (by repeat (first | (with_reducible first | exact HB.out | apply below_alloc | apply pw_below_drewN | apply below_drew1 | refine below_set ?_ GE192.out | refine below_set ?_ GE193.out | refine below_set ?_ GE213.out) | exact HB.out)))); (case aL => have := LMc64.out; omega); intro v267 w75 ho hb hg hat; rw [← Ny266.out] at ho; have n0_ := Aside0.mk (blk_grown (g := gb192) (o := .cells #[.int .i64 t196, .int .i64 t197, .bool t198, .bool t199, .int .i64 t200, .int .i64 t201, .bool t202, .bool t203] 33 (0, 0)) (by (with_reducible repeat (first | refine blk_drewN ?_ _ | refine blk_drew ?_ | refine blk_alloc ?_ _)); exact BK192.out) hg (Kd.R_away HO257.out (fun _ hk => hk.1))); have n1_ := Aside0.mk (blk_grown (g := gb193) (o := .cells #[.int .i64 a1_0, .int .i64 a1_1, .bool a1_2, .bool a1_3, .int .i64 a1_4, .int .i64 a1_5, .bool a1_6, .bool a1_7] 33 (0, 0)) (by (with_reducible repeat (first | refine blk_drewN ?_ _ | refine blk_drew ?_ | refine blk_alloc ?_ _)); exact BK193.out) hg (Kd.R_away HO257.out (fun _ hk => hk.2.1))); have n2_ := Aside0.mk (blk_grown (g := gb213) (o := .cells #[.int .i64 t204, .int .i64 t205, .bool t206, .bool t207, .int .i64 t208, .int .i64 t209, .bool t210, .bool t211] 33 (0, 0)) (by (with_reducible repeat (first | refine blk_drewN ?_ _ | refine blk_drew ?_ | refine blk_alloc ?_ _)); exact BK213.out) hg (Kd.R_away HO257.out (fun _ hk => hk.2.2))); have n3_ := Aside0.mk (hb); have n4_ := Aside0.mk (ho); clear BK192; clear BK193; clear BK213; clear HB; clear HO257; have BK192 := n0_; have BK193 := n1_; have BK213 := n2_; have HB := n3_; have HO268 := n4_; clear n0_ n1_ n2_ n3_ n4_; clear ho hb hg hat))
                          go_ret
                          exact ⟨_, by first | rfl | (simp [errW_none, errW_some] <;> rfl) | (simp [*, errW_none, errW_some] <;> rfl), by (with_reducible repeat (first | apply Kd.R_alloc | apply Kd.R_drewN | apply Kd.R_drew)); exact Kd.R_mono HO268.out (fun _ hk => trivial), by repeat (first | (with_reducible first | exact HB.out | apply below_alloc | apply pw_below_drewN | apply below_drew1 | refine below_set ?_ GE192.out | refine below_set ?_ GE193.out | refine below_set ?_ GE213.out) | exact HB.out)⟩
                        · rw [if_neg c64] at H
                          exact absurd H (by simp)
                      · rw [if_neg c62] at H
                        have c62b0 : decide (t209 < t201) = false := decide_eq_false c62
                        clear c62
                        obtain rfl := Option.some.inj H
                        have hnb76 := NB192_193.out
                        have hnc76 := NB193_192.out
                        have hnb77 := NB192_213.out
                        have hnc77 := NB213_192.out
                        have hcz78_0 : wc.cell? ⟨gb192, 0, none⟩ = some (.int .i64 t196) := (blk_cell BK192.out 0).trans rfl
                        have hcz78_1 : wc.cell? ⟨gb192, 1, none⟩ = some (.int .i64 t197) := (blk_cell BK192.out 1).trans rfl
                        have hcz78_2 : wc.cell? ⟨gb192, 2, none⟩ = some (.bool t198) := (blk_cell BK192.out 2).trans rfl
                        have hcz78_3 : wc.cell? ⟨gb192, 3, none⟩ = some (.bool t199) := (blk_cell BK192.out 3).trans rfl
                        have hcz78_4 : wc.cell? ⟨gb192, 4, none⟩ = some (.int .i64 t200) := (blk_cell BK192.out 4).trans rfl
                        have hcz78_5 : wc.cell? ⟨gb192, 5, none⟩ = some (.int .i64 t201) := (blk_cell BK192.out 5).trans rfl
                        have hcz78_6 : wc.cell? ⟨gb192, 6, none⟩ = some (.bool t202) := (blk_cell BK192.out 6).trans rfl
                        have hcz78_7 : wc.cell? ⟨gb192, 7, none⟩ = some (.bool t203) := (blk_cell BK192.out 7).trans rfl
                        have hfz78_0 := blk_frozen BK192.out 0
                        have hfz78_1 := blk_frozen BK192.out 1
                        have hfz78_2 := blk_frozen BK192.out 2
                        have hfz78_3 := blk_frozen BK192.out 3
                        have hfz78_4 := blk_frozen BK192.out 4
                        have hfz78_5 := blk_frozen BK192.out 5
                        have hfz78_6 := blk_frozen BK192.out 6
                        have hfz78_7 := blk_frozen BK192.out 7
                        have hnb79 := NB213_193.out
                        have hnc79 := NB193_213.out
                        have hcz80_0 : wc.cell? ⟨gb213, 0, none⟩ = some (.int .i64 t204) := (blk_cell BK213.out 0).trans rfl
                        have hcz80_1 : wc.cell? ⟨gb213, 1, none⟩ = some (.int .i64 t205) := (blk_cell BK213.out 1).trans rfl
                        have hcz80_2 : wc.cell? ⟨gb213, 2, none⟩ = some (.bool t206) := (blk_cell BK213.out 2).trans rfl
                        have hcz80_3 : wc.cell? ⟨gb213, 3, none⟩ = some (.bool t207) := (blk_cell BK213.out 3).trans rfl
                        have hcz80_4 : wc.cell? ⟨gb213, 4, none⟩ = some (.int .i64 t208) := (blk_cell BK213.out 4).trans rfl
                        have hcz80_5 : wc.cell? ⟨gb213, 5, none⟩ = some (.int .i64 t209) := (blk_cell BK213.out 5).trans rfl
                        have hcz80_6 : wc.cell? ⟨gb213, 6, none⟩ = some (.bool t210) := (blk_cell BK213.out 6).trans rfl
                        have hcz80_7 : wc.cell? ⟨gb213, 7, none⟩ = some (.bool t211) := (blk_cell BK213.out 7).trans rfl
                        have hfz80_0 := blk_frozen BK213.out 0
                        have hfz80_1 := blk_frozen BK213.out 1
                        have hfz80_2 := blk_frozen BK213.out 2
                        have hfz80_3 := blk_frozen BK213.out 3
                        have hfz80_4 := blk_frozen BK213.out 4
                        have hfz80_5 := blk_frozen BK213.out 5
                        have hfz80_6 := blk_frozen BK213.out 6
                        have hfz80_7 := blk_frozen BK213.out 7
                        go_wp2_with (first | ((with_reducible refine gate_callee (f := 53) rfl ?_); refine goesL_ (some 109) rfl rfl Try.func53 (by kernel_rfl) rfl #[.int .i64 t204, .int .i64 t197, .int .i64 t208, .int .i64 (wrap64 (t205 - 1))] rfl (by (try simp only [List.map_toArray, List.map_cons, List.map_nil]); first | done | rfl | (simp only [List.length_drop, List.length_take]; rfl)) ?_; (with_reducible refine (spec_l3Area.calls t204 t197 t208 (wrap64 (t205 - 1)) t247 t248 t249 t250 t251 t252 t253 t254 _ A60.out).mono ?_); rintro e w81 ⟨rfl, hb⟩; refine ⟨_, rfl, ?_⟩; have n0_ := Aside0.mk (Kd.R_below (by (with_reducible repeat (first | apply Kd.R_alloc | apply Kd.R_drewN | apply Kd.R_drew)); exact HO_7.out) hb); have n1_ := Aside0.mk (blk_below (g := gb192) (o := .cells #[.int .i64 t196, .int .i64 t197, .bool t198, .bool t199, .int .i64 t200, .int .i64 t201, .bool t202, .bool t203] 33 (0, 0)) (by (with_reducible repeat (first | refine blk_drewN ?_ _ | refine blk_drew ?_ | refine blk_alloc ?_ _)); exact BK192.out) hb); have n2_ := Aside0.mk (blk_below (g := gb193) (o := .cells #[.int .i64 a1_0, .int .i64 a1_1, .bool a1_2, .bool a1_3, .int .i64 a1_4, .int .i64 a1_5, .bool a1_6, .bool a1_7] 33 (0, 0)) (by (with_reducible repeat (first | refine blk_drewN ?_ _ | refine blk_drew ?_ | refine blk_alloc ?_ _)); exact BK193.out) hb); have n3_ := Aside0.mk (blk_below (g := gb213) (o := .cells #[.int .i64 t204, .int .i64 t205, .bool t206, .bool t207, .int .i64 t208, .int .i64 t209, .bool t210, .bool t211] 33 (0, 0)) (by (with_reducible repeat (first | refine blk_drewN ?_ _ | refine blk_drew ?_ | refine blk_alloc ?_ _)); exact BK213.out) hb); have n4_ := Aside0.mk (below_step (by repeat (first | (with_reducible first | exact HB.out | apply below_alloc | apply pw_below_drewN | apply below_drew1 | refine below_set ?_ GE192.out | refine below_set ?_ GE193.out | refine below_set ?_ GE213.out) | exact HB.out)) hb); clear HO_7; clear BK192; clear BK193; clear BK213; clear HB; have HO_7 := n0_; have BK192 := n1_; have BK193 := n2_; have BK213 := n3_; have HB := n4_; clear n0_ n1_ n2_ n3_ n4_; (try clear hb); (try clear hb2); (try clear hk); (try clear hi)) | ((with_reducible refine gate_builtin (b := .append) (xs := #[.tmp 95, .tmp 110]) rfl ?_); at_builtin; refine Kd.R_append k33 (w0 := w) w.heap.size rfl (.tmp 95) (.tmp 110) 38 33 (.agg #[(.int .i64 0), (.int .i64 0), (.bool false), (.bool false), (.int .i64 0), (.int .i64 0), (.bool false), (.bool false)]) 48 rfl Try.underlying38 info33 rfl (by decide) (by omega) u7 x7_42 (⟨(⟨t247, t248, t249, t250⟩ : S31), (⟨t251, t252, t253, t254⟩ : S31)⟩ : S33) [.int .i64 t247, .int .i64 t248, .bool t249, .bool t250, .int .i64 t251, .int .i64 t252, .bool t253, .bool t254] (fun k_ => k_ ≠ gb192 ∧ k_ ≠ gb193 ∧ k_ ≠ gb213) (fun _ => False) rfl rfl ?aP (fun _ hk => hk.elim) ?aF ?aO ?aB ?aS ?aL ?_; (case aP => exact k33_mkM _ _ _ (⟨(⟨t247, t248, t249, t250⟩ : S31), (⟨t251, t252, t253, t254⟩ : S31)⟩ : S33)); (case aB => exact (by repeat (first | (with_reducible first | exact HB.out | apply below_alloc | apply pw_below_drewN | apply below_drew1 | refine below_set ?_ GE192.out | refine below_set ?_ GE193.out | refine below_set ?_ GE213.out) | exact HB.out))); (case aF => exact (fun k_ hk => ⟨Kd.freshB (g := gb192) (o := .cells #[.int .i64 t196, .int .i64 t197, .bool t198, .bool t199, .int .i64 t200, .int .i64 t201, .bool t202, .bool t203] 33 (0, 0)) (by (with_reducible repeat (first | refine blk_drewN ?_ _ | refine blk_drew ?_ | refine blk_alloc ?_ _)); exact BK192.out) k_ hk, Kd.freshB (g := gb193) (o := .cells #[.int .i64 a1_0, .int .i64 a1_1, .bool a1_2, .bool a1_3, .int .i64 a1_4, .int .i64 a1_5, .bool a1_6, .bool a1_7] 33 (0, 0)) (by (with_reducible repeat (first | refine blk_drewN ?_ _ | refine blk_drew ?_ | refine blk_alloc ?_ _)); exact BK193.out) k_ hk, Kd.freshB (g := gb213) (o := .cells #[.int .i64 t204, .int .i64 t205, .bool t206, .bool t207, .int .i64 t208, .int .i64 t209, .bool t210, .bool t211] 33 (0, 0)) (by (with_reducible repeat (first | refine blk_drewN ?_ _ | refine blk_drew ?_ | refine blk_alloc ?_ _)); exact BK213.out) k_ hk⟩)); (case aO => exact (by (with_reducible repeat (first | apply Kd.R_alloc | apply Kd.R_drewN | apply Kd.R_drew)); exact HO_7.out)); (case aS => exact (below_size (by repeat (first | (with_reducible first | exact HB.out | apply below_alloc | apply pw_below_drewN | apply below_drew1 | refine below_set ?_ GE192.out | refine below_set ?_ GE193.out | refine below_set ?_ GE213.out) | exact HB.out)))); (case aL => have := LMc61.out; omega); intro v256 w82 ho hb hg hat; rw [← Ny255.out] at ho; have n0_ := Aside0.mk (blk_grown (g := gb192) (o := .cells #[.int .i64 t196, .int .i64 t197, .bool t198, .bool t199, .int .i64 t200, .int .i64 t201, .bool t202, .bool t203] 33 (0, 0)) (by (with_reducible repeat (first | refine blk_drewN ?_ _ | refine blk_drew ?_ | refine blk_alloc ?_ _)); exact BK192.out) hg (Kd.R_away HO_7.out (fun _ hk => hk.1))); have n1_ := Aside0.mk (blk_grown (g := gb193) (o := .cells #[.int .i64 a1_0, .int .i64 a1_1, .bool a1_2, .bool a1_3, .int .i64 a1_4, .int .i64 a1_5, .bool a1_6, .bool a1_7] 33 (0, 0)) (by (with_reducible repeat (first | refine blk_drewN ?_ _ | refine blk_drew ?_ | refine blk_alloc ?_ _)); exact BK193.out) hg (Kd.R_away HO_7.out (fun _ hk => hk.2.1))); have n2_ := Aside0.mk (blk_grown (g := gb213) (o := .cells #[.int .i64 t204, .int .i64 t205, .bool t206, .bool t207, .int .i64 t208, .int .i64 t209, .bool t210, .bool t211] 33 (0, 0)) (by (with_reducible repeat (first | refine blk_drewN ?_ _ | refine blk_drew ?_ | refine blk_alloc ?_ _)); exact BK213.out) hg (Kd.R_away HO_7.out (fun _ hk => hk.2.2))); have n3_ := Aside0.mk (hb); have n4_ := Aside0.mk (ho); clear BK192; clear BK193; clear BK213; clear HB; clear HO_7; have BK192 := n0_; have BK193 := n1_; have BK213 := n2_; have HB := n3_; have HO257 := n4_; clear n0_ n1_ n2_ n3_ n4_; clear ho hb hg hat; have hcz83_0 : w82.cell? ⟨gb192, 0, none⟩ = some (.int .i64 t196) := (blk_cell BK192.out 0).trans rfl; have hcz83_1 : w82.cell? ⟨gb192, 1, none⟩ = some (.int .i64 t197) := (blk_cell BK192.out 1).trans rfl; have hcz83_2 : w82.cell? ⟨gb192, 2, none⟩ = some (.bool t198) := (blk_cell BK192.out 2).trans rfl; have hcz83_3 : w82.cell? ⟨gb192, 3, none⟩ = some (.bool t199) := (blk_cell BK192.out 3).trans rfl; have hcz83_4 : w82.cell? ⟨gb192, 4, none⟩ = some (.int .i64 t200) := (blk_cell BK192.out 4).trans rfl; have hcz83_5 : w82.cell? ⟨gb192, 5, none⟩ = some (.int .i64 t201) := (blk_cell BK192.out 5).trans rfl; have hcz83_6 : w82.cell? ⟨gb192, 6, none⟩ = some (.bool t202) := (blk_cell BK192.out 6).trans rfl; have hcz83_7 : w82.cell? ⟨gb192, 7, none⟩ = some (.bool t203) := (blk_cell BK192.out 7).trans rfl; have hfz83_0 := blk_frozen BK192.out 0; have hfz83_1 := blk_frozen BK192.out 1; have hfz83_2 := blk_frozen BK192.out 2; have hfz83_3 := blk_frozen BK192.out 3; have hfz83_4 := blk_frozen BK192.out 4; have hfz83_5 := blk_frozen BK192.out 5; have hfz83_6 := blk_frozen BK192.out 6; have hfz83_7 := blk_frozen BK192.out 7; have hcz84_0 : w82.cell? ⟨gb213, 0, none⟩ = some (.int .i64 t204) := (blk_cell BK213.out 0).trans rfl; have hcz84_1 : w82.cell? ⟨gb213, 1, none⟩ = some (.int .i64 t205) := (blk_cell BK213.out 1).trans rfl; have hcz84_2 : w82.cell? ⟨gb213, 2, none⟩ = some (.bool t206) := (blk_cell BK213.out 2).trans rfl; have hcz84_3 : w82.cell? ⟨gb213, 3, none⟩ = some (.bool t207) := (blk_cell BK213.out 3).trans rfl; have hcz84_4 : w82.cell? ⟨gb213, 4, none⟩ = some (.int .i64 t208) := (blk_cell BK213.out 4).trans rfl; have hcz84_5 : w82.cell? ⟨gb213, 5, none⟩ = some (.int .i64 t209) := (blk_cell BK213.out 5).trans rfl; have hcz84_6 : w82.cell? ⟨gb213, 6, none⟩ = some (.bool t210) := (blk_cell BK213.out 6).trans rfl; have hcz84_7 : w82.cell? ⟨gb213, 7, none⟩ = some (.bool t211) := (blk_cell BK213.out 7).trans rfl; have hfz84_0 := blk_frozen BK213.out 0; have hfz84_1 := blk_frozen BK213.out 1; have hfz84_2 := blk_frozen BK213.out 2; have hfz84_3 := blk_frozen BK213.out 3; have hfz84_4 := blk_frozen BK213.out 4; have hfz84_5 := blk_frozen BK213.out 5; have hfz84_6 := blk_frozen BK213.out 6; have hfz84_7 := blk_frozen BK213.out 7))
                        go_ret
                        exact ⟨_, by first | rfl | (simp [errW_none, errW_some] <;> rfl) | (simp [*, errW_none, errW_some] <;> rfl), by (with_reducible repeat (first | apply Kd.R_alloc | apply Kd.R_drewN | apply Kd.R_drew)); exact Kd.R_mono HO257.out (fun _ hk => trivial), by repeat (first | (with_reducible first | exact HB.out | apply below_alloc | apply pw_below_drewN | apply below_drew1 | refine below_set ?_ GE192.out | refine below_set ?_ GE193.out | refine below_set ?_ GE213.out) | exact HB.out)⟩
                    · rw [if_neg c61] at H
                      exact absurd H (by simp)
                  · rw [if_neg c59] at H
                    have c59b0 : decide (t197 < t205) = false := decide_eq_false c59
                    clear c59
                    by_cases c85 : t201 > t209
                    · rw [if_pos c85] at H
                      have c85b0 : decide (t209 < t201) = true := decide_eq_true c85
                      clear c85
                      replace H := Option.bind_eq_some_iff.mp H
                      obtain ⟨⟨t269, t270, t271, t272, t273, t274, t275, t276⟩, A860, H⟩ := H
                      replace H : (if x7_42.length < 2932031007402 then (some (x7_42 ++ [(⟨(⟨t269, t270, t271, t272⟩ : S31), (⟨t273, t274, t275, t276⟩ : S31)⟩ : S33)])) else (none)) = some r := H
                      have A86 := Aside0.mk A860
                      clear A860
                      by_cases c87 : x7_42.length < 2932031007402
                      · rw [if_pos c87] at H
                        have LMc87 := Aside0.mk c87
                        clear c87
                        obtain ⟨y277, hy277⟩ : ∃ y_ : List (S33), y_ = (x7_42 ++ [(⟨(⟨t269, t270, t271, t272⟩ : S31), (⟨t273, t274, t275, t276⟩ : S31)⟩ : S33)]) := ⟨_, rfl⟩
                        replace H : (some y277) = some r := by first | (rw [hy277]; with_reducible exact H) | (have H2_ := (Option.bind_some _ _).symm.trans H; rw [hy277]; with_reducible exact H2_) | (have H2_ := (Option.bind_some _ _).symm.trans H; with_reducible exact H2_) | with_reducible exact H | (rw [hy277]; exact H) | exact H
                        have Ny277 := Aside0.mk hy277
                        clear hy277
                        obtain rfl := Option.some.inj H
                        have hnb88 := NB192_193.out
                        have hnc88 := NB193_192.out
                        have hnb89 := NB192_213.out
                        have hnc89 := NB213_192.out
                        have hcz90_0 : wc.cell? ⟨gb192, 0, none⟩ = some (.int .i64 t196) := (blk_cell BK192.out 0).trans rfl
                        have hcz90_1 : wc.cell? ⟨gb192, 1, none⟩ = some (.int .i64 t197) := (blk_cell BK192.out 1).trans rfl
                        have hcz90_2 : wc.cell? ⟨gb192, 2, none⟩ = some (.bool t198) := (blk_cell BK192.out 2).trans rfl
                        have hcz90_3 : wc.cell? ⟨gb192, 3, none⟩ = some (.bool t199) := (blk_cell BK192.out 3).trans rfl
                        have hcz90_4 : wc.cell? ⟨gb192, 4, none⟩ = some (.int .i64 t200) := (blk_cell BK192.out 4).trans rfl
                        have hcz90_5 : wc.cell? ⟨gb192, 5, none⟩ = some (.int .i64 t201) := (blk_cell BK192.out 5).trans rfl
                        have hcz90_6 : wc.cell? ⟨gb192, 6, none⟩ = some (.bool t202) := (blk_cell BK192.out 6).trans rfl
                        have hcz90_7 : wc.cell? ⟨gb192, 7, none⟩ = some (.bool t203) := (blk_cell BK192.out 7).trans rfl
                        have hfz90_0 := blk_frozen BK192.out 0
                        have hfz90_1 := blk_frozen BK192.out 1
                        have hfz90_2 := blk_frozen BK192.out 2
                        have hfz90_3 := blk_frozen BK192.out 3
                        have hfz90_4 := blk_frozen BK192.out 4
                        have hfz90_5 := blk_frozen BK192.out 5
                        have hfz90_6 := blk_frozen BK192.out 6
                        have hfz90_7 := blk_frozen BK192.out 7
                        have hnb91 := NB213_193.out
                        have hnc91 := NB193_213.out
                        have hcz92_0 : wc.cell? ⟨gb213, 0, none⟩ = some (.int .i64 t204) := (blk_cell BK213.out 0).trans rfl
                        have hcz92_1 : wc.cell? ⟨gb213, 1, none⟩ = some (.int .i64 t205) := (blk_cell BK213.out 1).trans rfl
                        have hcz92_2 : wc.cell? ⟨gb213, 2, none⟩ = some (.bool t206) := (blk_cell BK213.out 2).trans rfl
                        have hcz92_3 : wc.cell? ⟨gb213, 3, none⟩ = some (.bool t207) := (blk_cell BK213.out 3).trans rfl
                        have hcz92_4 : wc.cell? ⟨gb213, 4, none⟩ = some (.int .i64 t208) := (blk_cell BK213.out 4).trans rfl
                        have hcz92_5 : wc.cell? ⟨gb213, 5, none⟩ = some (.int .i64 t209) := (blk_cell BK213.out 5).trans rfl
                        have hcz92_6 : wc.cell? ⟨gb213, 6, none⟩ = some (.bool t210) := (blk_cell BK213.out 6).trans rfl
                        have hcz92_7 : wc.cell? ⟨gb213, 7, none⟩ = some (.bool t211) := (blk_cell BK213.out 7).trans rfl
                        have hfz92_0 := blk_frozen BK213.out 0
                        have hfz92_1 := blk_frozen BK213.out 1
                        have hfz92_2 := blk_frozen BK213.out 2
                        have hfz92_3 := blk_frozen BK213.out 3
                        have hfz92_4 := blk_frozen BK213.out 4
                        have hfz92_5 := blk_frozen BK213.out 5
                        have hfz92_6 := blk_frozen BK213.out 6
                        have hfz92_7 := blk_frozen BK213.out 7
                        go_wp2_with (first | ((with_reducible refine gate_callee (f := 53) rfl ?_); refine goesL_ (some 133) rfl rfl Try.func53 (by kernel_rfl) rfl #[.int .i64 t204, .int .i64 (wrap64 (t209 + 1)), .int .i64 t208, .int .i64 t201] rfl (by (try simp only [List.map_toArray, List.map_cons, List.map_nil]); first | done | rfl | (simp only [List.length_drop, List.length_take]; rfl)) ?_; (with_reducible refine (spec_l3Area.calls t204 (wrap64 (t209 + 1)) t208 t201 t269 t270 t271 t272 t273 t274 t275 t276 _ A86.out).mono ?_); rintro e w93 ⟨rfl, hb⟩; refine ⟨_, rfl, ?_⟩; have n0_ := Aside0.mk (Kd.R_below (by (with_reducible repeat (first | apply Kd.R_alloc | apply Kd.R_drewN | apply Kd.R_drew)); exact HO_7.out) hb); have n1_ := Aside0.mk (blk_below (g := gb192) (o := .cells #[.int .i64 t196, .int .i64 t197, .bool t198, .bool t199, .int .i64 t200, .int .i64 t201, .bool t202, .bool t203] 33 (0, 0)) (by (with_reducible repeat (first | refine blk_drewN ?_ _ | refine blk_drew ?_ | refine blk_alloc ?_ _)); exact BK192.out) hb); have n2_ := Aside0.mk (blk_below (g := gb193) (o := .cells #[.int .i64 a1_0, .int .i64 a1_1, .bool a1_2, .bool a1_3, .int .i64 a1_4, .int .i64 a1_5, .bool a1_6, .bool a1_7] 33 (0, 0)) (by (with_reducible repeat (first | refine blk_drewN ?_ _ | refine blk_drew ?_ | refine blk_alloc ?_ _)); exact BK193.out) hb); have n3_ := Aside0.mk (blk_below (g := gb213) (o := .cells #[.int .i64 t204, .int .i64 t205, .bool t206, .bool t207, .int .i64 t208, .int .i64 t209, .bool t210, .bool t211] 33 (0, 0)) (by (with_reducible repeat (first | refine blk_drewN ?_ _ | refine blk_drew ?_ | refine blk_alloc ?_ _)); exact BK213.out) hb); have n4_ := Aside0.mk (below_step (by repeat (first | (with_reducible first | exact HB.out | apply below_alloc | apply pw_below_drewN | apply below_drew1 | refine below_set ?_ GE192.out | refine below_set ?_ GE193.out | refine below_set ?_ GE213.out) | exact HB.out)) hb); clear HO_7; clear BK192; clear BK193; clear BK213; clear HB; have HO_7 := n0_; have BK192 := n1_; have BK193 := n2_; have BK213 := n3_; have HB := n4_; clear n0_ n1_ n2_ n3_ n4_; (try clear hb); (try clear hb2); (try clear hk); (try clear hi)) | ((with_reducible refine gate_builtin (b := .append) (xs := #[.tmp 119, .tmp 134]) rfl ?_); at_builtin; refine Kd.R_append k33 (w0 := w) w.heap.size rfl (.tmp 119) (.tmp 134) 38 33 (.agg #[(.int .i64 0), (.int .i64 0), (.bool false), (.bool false), (.int .i64 0), (.int .i64 0), (.bool false), (.bool false)]) 48 rfl Try.underlying38 info33 rfl (by decide) (by omega) u7 x7_42 (⟨(⟨t269, t270, t271, t272⟩ : S31), (⟨t273, t274, t275, t276⟩ : S31)⟩ : S33) [.int .i64 t269, .int .i64 t270, .bool t271, .bool t272, .int .i64 t273, .int .i64 t274, .bool t275, .bool t276] (fun k_ => k_ ≠ gb192 ∧ k_ ≠ gb193 ∧ k_ ≠ gb213) (fun _ => False) rfl rfl ?aP (fun _ hk => hk.elim) ?aF ?aO ?aB ?aS ?aL ?_; (case aP => exact k33_mkM _ _ _ (⟨(⟨t269, t270, t271, t272⟩ : S31), (⟨t273, t274, t275, t276⟩ : S31)⟩ : S33)); (case aB => exact (by repeat (first | (with_reducible first | exact HB.out | apply below_alloc | apply pw_below_drewN | apply below_drew1 | refine below_set ?_ GE192.out | refine below_set ?_ GE193.out | refine below_set ?_ GE213.out) | exact HB.out))); (case aF => exact (fun k_ hk => ⟨Kd.freshB (g := gb192) (o := .cells #[.int .i64 t196, .int .i64 t197, .bool t198, .bool t199, .int .i64 t200, .int .i64 t201, .bool t202, .bool t203] 33 (0, 0)) (by (with_reducible repeat (first | refine blk_drewN ?_ _ | refine blk_drew ?_ | refine blk_alloc ?_ _)); exact BK192.out) k_ hk, Kd.freshB (g := gb193) (o := .cells #[.int .i64 a1_0, .int .i64 a1_1, .bool a1_2, .bool a1_3, .int .i64 a1_4, .int .i64 a1_5, .bool a1_6, .bool a1_7] 33 (0, 0)) (by (with_reducible repeat (first | refine blk_drewN ?_ _ | refine blk_drew ?_ | refine blk_alloc ?_ _)); exact BK193.out) k_ hk, Kd.freshB (g := gb213) (o := .cells #[.int .i64 t204, .int .i64 t205, .bool t206, .bool t207, .int .i64 t208, .int .i64 t209, .bool t210, .bool t211] 33 (0, 0)) (by (with_reducible repeat (first | refine blk_drewN ?_ _ | refine blk_drew ?_ | refine blk_alloc ?_ _)); exact BK213.out) k_ hk⟩)); (case aO => exact (by (with_reducible repeat (first | apply Kd.R_alloc | apply Kd.R_drewN | apply Kd.R_drew)); exact HO_7.out)); (case aS => exact (below_size (by repeat (first | (with_reducible first | exact HB.out | apply below_alloc | apply pw_below_drewN | apply below_drew1 | refine below_set ?_ GE192.out | refine below_set ?_ GE193.out | refine below_set ?_ GE213.out) | exact HB.out)))); (case aL => have := LMc87.out; omega); intro v278 w94 ho hb hg hat; rw [← Ny277.out] at ho; have n0_ := Aside0.mk (blk_grown (g := gb192) (o := .cells #[.int .i64 t196, .int .i64 t197, .bool t198, .bool t199, .int .i64 t200, .int .i64 t201, .bool t202, .bool t203] 33 (0, 0)) (by (with_reducible repeat (first | refine blk_drewN ?_ _ | refine blk_drew ?_ | refine blk_alloc ?_ _)); exact BK192.out) hg (Kd.R_away HO_7.out (fun _ hk => hk.1))); have n1_ := Aside0.mk (blk_grown (g := gb193) (o := .cells #[.int .i64 a1_0, .int .i64 a1_1, .bool a1_2, .bool a1_3, .int .i64 a1_4, .int .i64 a1_5, .bool a1_6, .bool a1_7] 33 (0, 0)) (by (with_reducible repeat (first | refine blk_drewN ?_ _ | refine blk_drew ?_ | refine blk_alloc ?_ _)); exact BK193.out) hg (Kd.R_away HO_7.out (fun _ hk => hk.2.1))); have n2_ := Aside0.mk (blk_grown (g := gb213) (o := .cells #[.int .i64 t204, .int .i64 t205, .bool t206, .bool t207, .int .i64 t208, .int .i64 t209, .bool t210, .bool t211] 33 (0, 0)) (by (with_reducible repeat (first | refine blk_drewN ?_ _ | refine blk_drew ?_ | refine blk_alloc ?_ _)); exact BK213.out) hg (Kd.R_away HO_7.out (fun _ hk => hk.2.2))); have n3_ := Aside0.mk (hb); have n4_ := Aside0.mk (ho); clear BK192; clear BK193; clear BK213; clear HB; clear HO_7; have BK192 := n0_; have BK193 := n1_; have BK213 := n2_; have HB := n3_; have HO279 := n4_; clear n0_ n1_ n2_ n3_ n4_; clear ho hb hg hat))
                        go_ret
                        exact ⟨_, by first | rfl | (simp [errW_none, errW_some] <;> rfl) | (simp [*, errW_none, errW_some] <;> rfl), by (with_reducible repeat (first | apply Kd.R_alloc | apply Kd.R_drewN | apply Kd.R_drew)); exact Kd.R_mono HO279.out (fun _ hk => trivial), by repeat (first | (with_reducible first | exact HB.out | apply below_alloc | apply pw_below_drewN | apply below_drew1 | refine below_set ?_ GE192.out | refine below_set ?_ GE193.out | refine below_set ?_ GE213.out) | exact HB.out)⟩
                      · rw [if_neg c87] at H
                        exact absurd H (by simp)
                    · rw [if_neg c85] at H
                      have c85b0 : decide (t209 < t201) = false := decide_eq_false c85
                      clear c85
                      obtain rfl := Option.some.inj H
                      have hnb95 := NB192_193.out
                      have hnc95 := NB193_192.out
                      have hnb96 := NB192_213.out
                      have hnc96 := NB213_192.out
                      have hcz97_0 : wc.cell? ⟨gb192, 0, none⟩ = some (.int .i64 t196) := (blk_cell BK192.out 0).trans rfl
                      have hcz97_1 : wc.cell? ⟨gb192, 1, none⟩ = some (.int .i64 t197) := (blk_cell BK192.out 1).trans rfl
                      have hcz97_2 : wc.cell? ⟨gb192, 2, none⟩ = some (.bool t198) := (blk_cell BK192.out 2).trans rfl
                      have hcz97_3 : wc.cell? ⟨gb192, 3, none⟩ = some (.bool t199) := (blk_cell BK192.out 3).trans rfl
                      have hcz97_4 : wc.cell? ⟨gb192, 4, none⟩ = some (.int .i64 t200) := (blk_cell BK192.out 4).trans rfl
                      have hcz97_5 : wc.cell? ⟨gb192, 5, none⟩ = some (.int .i64 t201) := (blk_cell BK192.out 5).trans rfl
                      have hcz97_6 : wc.cell? ⟨gb192, 6, none⟩ = some (.bool t202) := (blk_cell BK192.out 6).trans rfl
                      have hcz97_7 : wc.cell? ⟨gb192, 7, none⟩ = some (.bool t203) := (blk_cell BK192.out 7).trans rfl
                      have hfz97_0 := blk_frozen BK192.out 0
                      have hfz97_1 := blk_frozen BK192.out 1
                      have hfz97_2 := blk_frozen BK192.out 2
                      have hfz97_3 := blk_frozen BK192.out 3
                      have hfz97_4 := blk_frozen BK192.out 4
                      have hfz97_5 := blk_frozen BK192.out 5
                      have hfz97_6 := blk_frozen BK192.out 6
                      have hfz97_7 := blk_frozen BK192.out 7
                      have hnb98 := NB213_193.out
                      have hnc98 := NB193_213.out
                      have hcz99_0 : wc.cell? ⟨gb213, 0, none⟩ = some (.int .i64 t204) := (blk_cell BK213.out 0).trans rfl
                      have hcz99_1 : wc.cell? ⟨gb213, 1, none⟩ = some (.int .i64 t205) := (blk_cell BK213.out 1).trans rfl
                      have hcz99_2 : wc.cell? ⟨gb213, 2, none⟩ = some (.bool t206) := (blk_cell BK213.out 2).trans rfl
                      have hcz99_3 : wc.cell? ⟨gb213, 3, none⟩ = some (.bool t207) := (blk_cell BK213.out 3).trans rfl
                      have hcz99_4 : wc.cell? ⟨gb213, 4, none⟩ = some (.int .i64 t208) := (blk_cell BK213.out 4).trans rfl
                      have hcz99_5 : wc.cell? ⟨gb213, 5, none⟩ = some (.int .i64 t209) := (blk_cell BK213.out 5).trans rfl
                      have hcz99_6 : wc.cell? ⟨gb213, 6, none⟩ = some (.bool t210) := (blk_cell BK213.out 6).trans rfl
                      have hcz99_7 : wc.cell? ⟨gb213, 7, none⟩ = some (.bool t211) := (blk_cell BK213.out 7).trans rfl
                      have hfz99_0 := blk_frozen BK213.out 0
                      have hfz99_1 := blk_frozen BK213.out 1
                      have hfz99_2 := blk_frozen BK213.out 2
                      have hfz99_3 := blk_frozen BK213.out 3
                      have hfz99_4 := blk_frozen BK213.out 4
                      have hfz99_5 := blk_frozen BK213.out 5
                      have hfz99_6 := blk_frozen BK213.out 6
                      have hfz99_7 := blk_frozen BK213.out 7
                      go_wp2
                      go_ret
                      exact ⟨_, by first | rfl | (simp [errW_none, errW_some] <;> rfl) | (simp [*, errW_none, errW_some] <;> rfl), by (with_reducible repeat (first | apply Kd.R_alloc | apply Kd.R_drewN | apply Kd.R_drew)); exact Kd.R_mono HO_7.out (fun _ hk => trivial), by repeat (first | (with_reducible first | exact HB.out | apply below_alloc | apply pw_below_drewN | apply below_drew1 | refine below_set ?_ GE192.out | refine below_set ?_ GE193.out | refine below_set ?_ GE213.out) | exact HB.out)⟩
        · replace c20 := Bool.eq_false_iff.mpr c20
          subst c20
          have H1 : ((spec_l3Area.f t196 t197 t200 t201).bind fun bt214 => (some (([(⟨(⟨bt214.1, bt214.2.1, bt214.2.2.1, bt214.2.2.2.1⟩ : S31), (⟨bt214.2.2.2.2.1, bt214.2.2.2.2.2.1, bt214.2.2.2.2.2.2.1, bt214.2.2.2.2.2.2.2⟩ : S31)⟩ : S33)] : List (S33))))) = some r := by rw [if_neg (show ¬ (false = true) by decide)] at H; exact H
          clear H
          have H := H1
          clear H1
          replace H := Option.bind_eq_some_iff.mp H
          obtain ⟨⟨t214, t215, t216, t217, t218, t219, t220, t221⟩, A1000, H⟩ := H
          replace H : (some (([(⟨(⟨t214, t215, t216, t217⟩ : S31), (⟨t218, t219, t220, t221⟩ : S31)⟩ : S33)] : List (S33)))) = some r := H
          have A100 := Aside0.mk A1000
          clear A1000
          obtain ⟨y222, hy222⟩ : ∃ y_ : List (S33), y_ = (([(⟨(⟨t214, t215, t216, t217⟩ : S31), (⟨t218, t219, t220, t221⟩ : S31)⟩ : S33)] : List (S33))) := ⟨_, rfl⟩
          replace H : (some y222) = some r := by first | (rw [hy222]; with_reducible exact H) | (have H2_ := (Option.bind_some _ _).symm.trans H; rw [hy222]; with_reducible exact H2_) | (have H2_ := (Option.bind_some _ _).symm.trans H; with_reducible exact H2_) | with_reducible exact H | (rw [hy222]; exact H) | exact H
          have Ny222 := Aside0.mk hy222
          clear hy222
          obtain rfl := Option.some.inj H
          have hnb101 := NB192_193.out
          have hnc101 := NB193_192.out
          have hcz102_0 : wc.cell? ⟨gb192, 0, none⟩ = some (.int .i64 a0_0) := (blk_cell BK192.out 0).trans rfl
          have hcz102_1 : wc.cell? ⟨gb192, 1, none⟩ = some (.int .i64 a0_1) := (blk_cell BK192.out 1).trans rfl
          have hcz102_2 : wc.cell? ⟨gb192, 2, none⟩ = some (.bool a0_2) := (blk_cell BK192.out 2).trans rfl
          have hcz102_3 : wc.cell? ⟨gb192, 3, none⟩ = some (.bool a0_3) := (blk_cell BK192.out 3).trans rfl
          have hcz102_4 : wc.cell? ⟨gb192, 4, none⟩ = some (.int .i64 a0_4) := (blk_cell BK192.out 4).trans rfl
          have hcz102_5 : wc.cell? ⟨gb192, 5, none⟩ = some (.int .i64 a0_5) := (blk_cell BK192.out 5).trans rfl
          have hcz102_6 : wc.cell? ⟨gb192, 6, none⟩ = some (.bool a0_6) := (blk_cell BK192.out 6).trans rfl
          have hcz102_7 : wc.cell? ⟨gb192, 7, none⟩ = some (.bool a0_7) := (blk_cell BK192.out 7).trans rfl
          have hfz102_0 := blk_frozen BK192.out 0
          have hfz102_1 := blk_frozen BK192.out 1
          have hfz102_2 := blk_frozen BK192.out 2
          have hfz102_3 := blk_frozen BK192.out 3
          have hfz102_4 := blk_frozen BK192.out 4
          have hfz102_5 := blk_frozen BK192.out 5
          have hfz102_6 := blk_frozen BK192.out 6
          have hfz102_7 := blk_frozen BK192.out 7
          go_wp2_with (first | ((with_reducible refine gate_callee (f := 52) rfl ?_); refine goesL_ (some 17) rfl rfl Try.func52 (by kernel_rfl) rfl #[.agg #[.int .i64 a0_0, .int .i64 a0_1, .bool a0_2, .bool a0_3, .int .i64 a0_4, .int .i64 a0_5, .bool a0_6, .bool a0_7]] rfl (by (try simp only [List.map_toArray, List.map_cons, List.map_nil]); first | done | rfl | (simp only [List.length_drop, List.length_take]; rfl)) ?_; (with_reducible refine (spec_l3Normal.calls a0_0 a0_1 a0_2 a0_3 a0_4 a0_5 a0_6 a0_7 t196 t197 t198 t199 t200 t201 t202 t203 _ A18.out).mono ?_); rintro e w103 ⟨rfl, hb⟩; refine ⟨_, rfl, ?_⟩; have n0_ := Aside0.mk (blk_below (g := gb192) (o := .cells #[.int .i64 a0_0, .int .i64 a0_1, .bool a0_2, .bool a0_3, .int .i64 a0_4, .int .i64 a0_5, .bool a0_6, .bool a0_7] 33 (0, 0)) (by (with_reducible repeat (first | refine blk_drewN ?_ _ | refine blk_drew ?_ | refine blk_alloc ?_ _)); exact BK192.out) hb); have n1_ := Aside0.mk (blk_below (g := gb193) (o := .cells #[.int .i64 a1_0, .int .i64 a1_1, .bool a1_2, .bool a1_3, .int .i64 a1_4, .int .i64 a1_5, .bool a1_6, .bool a1_7] 33 (0, 0)) (by (with_reducible repeat (first | refine blk_drewN ?_ _ | refine blk_drew ?_ | refine blk_alloc ?_ _)); exact BK193.out) hb); have n2_ := Aside0.mk (below_step (by repeat (first | (with_reducible first | exact HB.out | apply below_alloc | apply pw_below_drewN | apply below_drew1 | refine below_set ?_ GE192.out | refine below_set ?_ GE193.out) | exact HB.out)) hb); clear BK192; clear BK193; clear HB; have BK192 := n0_; have BK193 := n1_; have HB := n2_; clear n0_ n1_ n2_; (try clear hb); (try clear hb2); (try clear hk); (try clear hi); have hcz104_0 : w103.cell? ⟨gb192, 0, none⟩ = some (.int .i64 a0_0) := (blk_cell BK192.out 0).trans rfl; have hcz104_1 : w103.cell? ⟨gb192, 1, none⟩ = some (.int .i64 a0_1) := (blk_cell BK192.out 1).trans rfl; have hcz104_2 : w103.cell? ⟨gb192, 2, none⟩ = some (.bool a0_2) := (blk_cell BK192.out 2).trans rfl; have hcz104_3 : w103.cell? ⟨gb192, 3, none⟩ = some (.bool a0_3) := (blk_cell BK192.out 3).trans rfl; have hcz104_4 : w103.cell? ⟨gb192, 4, none⟩ = some (.int .i64 a0_4) := (blk_cell BK192.out 4).trans rfl; have hcz104_5 : w103.cell? ⟨gb192, 5, none⟩ = some (.int .i64 a0_5) := (blk_cell BK192.out 5).trans rfl; have hcz104_6 : w103.cell? ⟨gb192, 6, none⟩ = some (.bool a0_6) := (blk_cell BK192.out 6).trans rfl; have hcz104_7 : w103.cell? ⟨gb192, 7, none⟩ = some (.bool a0_7) := (blk_cell BK192.out 7).trans rfl; have hfz104_0 := blk_frozen BK192.out 0; have hfz104_1 := blk_frozen BK192.out 1; have hfz104_2 := blk_frozen BK192.out 2; have hfz104_3 := blk_frozen BK192.out 3; have hfz104_4 := blk_frozen BK192.out 4; have hfz104_5 := blk_frozen BK192.out 5; have hfz104_6 := blk_frozen BK192.out 6; have hfz104_7 := blk_frozen BK192.out 7; have hcz105_0 : w103.cell? ⟨gb193, 0, none⟩ = some (.int .i64 a1_0) := (blk_cell BK193.out 0).trans rfl; have hcz105_1 : w103.cell? ⟨gb193, 1, none⟩ = some (.int .i64 a1_1) := (blk_cell BK193.out 1).trans rfl; have hcz105_2 : w103.cell? ⟨gb193, 2, none⟩ = some (.bool a1_2) := (blk_cell BK193.out 2).trans rfl; have hcz105_3 : w103.cell? ⟨gb193, 3, none⟩ = some (.bool a1_3) := (blk_cell BK193.out 3).trans rfl; have hcz105_4 : w103.cell? ⟨gb193, 4, none⟩ = some (.int .i64 a1_4) := (blk_cell BK193.out 4).trans rfl; have hcz105_5 : w103.cell? ⟨gb193, 5, none⟩ = some (.int .i64 a1_5) := (blk_cell BK193.out 5).trans rfl; have hcz105_6 : w103.cell? ⟨gb193, 6, none⟩ = some (.bool a1_6) := (blk_cell BK193.out 6).trans rfl; have hcz105_7 : w103.cell? ⟨gb193, 7, none⟩ = some (.bool a1_7) := (blk_cell BK193.out 7).trans rfl; have hfz105_0 := blk_frozen BK193.out 0; have hfz105_1 := blk_frozen BK193.out 1; have hfz105_2 := blk_frozen BK193.out 2; have hfz105_3 := blk_frozen BK193.out 3; have hfz105_4 := blk_frozen BK193.out 4; have hfz105_5 := blk_frozen BK193.out 5; have hfz105_6 := blk_frozen BK193.out 6; have hfz105_7 := blk_frozen BK193.out 7) | ((with_reducible refine gate_callee (f := 20) rfl ?_); refine goesL_ (some 21) rfl rfl Try.func20 (by kernel_rfl) rfl #[.agg #[.int .i64 t196, .int .i64 t197, .bool t198, .bool t199, .int .i64 t200, .int .i64 t201, .bool t202, .bool t203], .agg #[.int .i64 a1_0, .int .i64 a1_1, .bool a1_2, .bool a1_3, .int .i64 a1_4, .int .i64 a1_5, .bool a1_6, .bool a1_7]] rfl (by (try simp only [List.map_toArray, List.map_cons, List.map_nil]); first | done | rfl | (simp only [List.length_drop, List.length_take]; rfl)) ?_; (with_reducible refine (spec_Meet.calls kj2 t196 t197 t198 t199 t200 t201 t202 t203 a1_0 a1_1 a1_2 a1_3 a1_4 a1_5 a1_6 a1_7 t204 t205 t206 t207 t208 t209 t210 t211 false _ A19.out).mono ?_); rintro e w106 ⟨rfl, hb⟩; refine ⟨_, rfl, ?_⟩; have n0_ := Aside0.mk (blk_below (g := gb192) (o := .cells #[.int .i64 t196, .int .i64 t197, .bool t198, .bool t199, .int .i64 t200, .int .i64 t201, .bool t202, .bool t203] 33 (0, 0)) (by (with_reducible repeat (first | refine blk_drewN ?_ _ | refine blk_drew ?_ | refine blk_alloc ?_ _)); refine blk_put (cs := #[.int .i64 t196, .int .i64 t197, .bool t198, .bool t199, .int .i64 t200, .int .i64 t201, .bool t202, .bool a0_7]) ?_ 7 _ rfl; (with_reducible repeat (first | refine blk_drewN ?_ _ | refine blk_drew ?_ | refine blk_alloc ?_ _)); refine blk_put (cs := #[.int .i64 t196, .int .i64 t197, .bool t198, .bool t199, .int .i64 t200, .int .i64 t201, .bool a0_6, .bool a0_7]) ?_ 6 _ rfl; (with_reducible repeat (first | refine blk_drewN ?_ _ | refine blk_drew ?_ | refine blk_alloc ?_ _)); refine blk_put (cs := #[.int .i64 t196, .int .i64 t197, .bool t198, .bool t199, .int .i64 t200, .int .i64 a0_5, .bool a0_6, .bool a0_7]) ?_ 5 _ rfl; (with_reducible repeat (first | refine blk_drewN ?_ _ | refine blk_drew ?_ | refine blk_alloc ?_ _)); refine blk_put (cs := #[.int .i64 t196, .int .i64 t197, .bool t198, .bool t199, .int .i64 a0_4, .int .i64 a0_5, .bool a0_6, .bool a0_7]) ?_ 4 _ rfl; (with_reducible repeat (first | refine blk_drewN ?_ _ | refine blk_drew ?_ | refine blk_alloc ?_ _)); refine blk_put (cs := #[.int .i64 t196, .int .i64 t197, .bool t198, .bool a0_3, .int .i64 a0_4, .int .i64 a0_5, .bool a0_6, .bool a0_7]) ?_ 3 _ rfl; (with_reducible repeat (first | refine blk_drewN ?_ _ | refine blk_drew ?_ | refine blk_alloc ?_ _)); refine blk_put (cs := #[.int .i64 t196, .int .i64 t197, .bool a0_2, .bool a0_3, .int .i64 a0_4, .int .i64 a0_5, .bool a0_6, .bool a0_7]) ?_ 2 _ rfl; (with_reducible repeat (first | refine blk_drewN ?_ _ | refine blk_drew ?_ | refine blk_alloc ?_ _)); refine blk_put (cs := #[.int .i64 t196, .int .i64 a0_1, .bool a0_2, .bool a0_3, .int .i64 a0_4, .int .i64 a0_5, .bool a0_6, .bool a0_7]) ?_ 1 _ rfl; (with_reducible repeat (first | refine blk_drewN ?_ _ | refine blk_drew ?_ | refine blk_alloc ?_ _)); refine blk_put (cs := #[.int .i64 a0_0, .int .i64 a0_1, .bool a0_2, .bool a0_3, .int .i64 a0_4, .int .i64 a0_5, .bool a0_6, .bool a0_7]) ?_ 0 _ rfl; (with_reducible repeat (first | refine blk_drewN ?_ _ | refine blk_drew ?_ | refine blk_alloc ?_ _)); exact BK192.out) hb); have n1_ := Aside0.mk (blk_below (g := gb193) (o := .cells #[.int .i64 a1_0, .int .i64 a1_1, .bool a1_2, .bool a1_3, .int .i64 a1_4, .int .i64 a1_5, .bool a1_6, .bool a1_7] 33 (0, 0)) (by (with_reducible repeat (first | refine blk_drewN ?_ _ | refine blk_drew ?_ | refine blk_alloc ?_ _)); refine blk_far ?_ NB193_192.out _; (with_reducible repeat (first | refine blk_drewN ?_ _ | refine blk_drew ?_ | refine blk_alloc ?_ _)); refine blk_far ?_ NB193_192.out _; (with_reducible repeat (first | refine blk_drewN ?_ _ | refine blk_drew ?_ | refine blk_alloc ?_ _)); refine blk_far ?_ NB193_192.out _; (with_reducible repeat (first | refine blk_drewN ?_ _ | refine blk_drew ?_ | refine blk_alloc ?_ _)); refine blk_far ?_ NB193_192.out _; (with_reducible repeat (first | refine blk_drewN ?_ _ | refine blk_drew ?_ | refine blk_alloc ?_ _)); refine blk_far ?_ NB193_192.out _; (with_reducible repeat (first | refine blk_drewN ?_ _ | refine blk_drew ?_ | refine blk_alloc ?_ _)); refine blk_far ?_ NB193_192.out _; (with_reducible repeat (first | refine blk_drewN ?_ _ | refine blk_drew ?_ | refine blk_alloc ?_ _)); refine blk_far ?_ NB193_192.out _; (with_reducible repeat (first | refine blk_drewN ?_ _ | refine blk_drew ?_ | refine blk_alloc ?_ _)); refine blk_far ?_ NB193_192.out _; (with_reducible repeat (first | refine blk_drewN ?_ _ | refine blk_drew ?_ | refine blk_alloc ?_ _)); exact BK193.out) hb); have n2_ := Aside0.mk (below_step (by repeat (first | (with_reducible first | exact HB.out | apply below_alloc | apply pw_below_drewN | apply below_drew1 | refine below_set ?_ GE192.out | refine below_set ?_ GE193.out) | exact HB.out)) hb); clear BK192; clear BK193; clear HB; have BK192 := n0_; have BK193 := n1_; have HB := n2_; clear n0_ n1_ n2_; (try clear hb); (try clear hb2); (try clear hk); (try clear hi)) | ((with_reducible refine gate_dst (N := 5) rfl ?_); refine box_event ?hg (N := 5) ?hd (cs := #[.int .i64 0, .int .i64 0, .bool false, .bool false, .int .i64 0, .int .i64 0, .bool false, .bool false]) (t := 33) ?hr ?_; (case hd => rfl); (case hg => rfl); (case hr => first | (go_simp; done) | (go_simp; rfl)); intro gb213 hg w107 hbox hb; have n0_ := Aside0.mk (blk_below (g := gb192) (o := .cells #[.int .i64 t196, .int .i64 t197, .bool t198, .bool t199, .int .i64 t200, .int .i64 t201, .bool t202, .bool t203] 33 (0, 0)) (by (with_reducible repeat (first | refine blk_drewN ?_ _ | refine blk_drew ?_ | refine blk_alloc ?_ _)); exact BK192.out) hb); have n1_ := Aside0.mk (blk_below (g := gb193) (o := .cells #[.int .i64 a1_0, .int .i64 a1_1, .bool a1_2, .bool a1_3, .int .i64 a1_4, .int .i64 a1_5, .bool a1_6, .bool a1_7] 33 (0, 0)) (by (with_reducible repeat (first | refine blk_drewN ?_ _ | refine blk_drew ?_ | refine blk_alloc ?_ _)); exact BK193.out) hb); have n2_ := Aside0.mk (below_step (by repeat (first | (with_reducible first | exact HB.out | apply below_alloc | apply pw_below_drewN | apply below_drew1 | refine below_set ?_ GE192.out | refine below_set ?_ GE193.out) | exact HB.out)) hb); have n3_ := Aside0.mk (hbox); have n4_ := Aside0.mk ((by rw [hg]; exact (below_size (by repeat (first | (with_reducible first | exact HB.out | apply below_alloc | apply pw_below_drewN | apply below_drew1 | refine below_set ?_ GE192.out | refine below_set ?_ GE193.out) | exact HB.out))) : w.heap.size ≤ gb213)); have n5_ := Aside0.mk ((by rw [hg]; exact (below_size (by repeat (first | (with_reducible first | exact HB.out | apply below_alloc | apply pw_below_drewN | apply below_drew1 | refine below_set ?_ GE192.out | refine below_set ?_ GE193.out) | exact HB.out))) : w.heap.size ≤ gb213)); have n6_ := Aside0.mk ((by rw [hg]; exact Nat.ne_of_lt (blk_lt (g := gb192) (o := .cells #[.int .i64 t196, .int .i64 t197, .bool t198, .bool t199, .int .i64 t200, .int .i64 t201, .bool t202, .bool t203] 33 (0, 0)) (by (with_reducible repeat (first | refine blk_drewN ?_ _ | refine blk_drew ?_ | refine blk_alloc ?_ _)); exact BK192.out)) : gb192 ≠ gb213)); have n7_ := Aside0.mk ((by rw [hg]; exact Nat.ne_of_gt (blk_lt (g := gb192) (o := .cells #[.int .i64 t196, .int .i64 t197, .bool t198, .bool t199, .int .i64 t200, .int .i64 t201, .bool t202, .bool t203] 33 (0, 0)) (by (with_reducible repeat (first | refine blk_drewN ?_ _ | refine blk_drew ?_ | refine blk_alloc ?_ _)); exact BK192.out)) : gb213 ≠ gb192)); have n8_ := Aside0.mk ((by rw [hg]; exact Nat.ne_of_lt (blk_lt (g := gb193) (o := .cells #[.int .i64 a1_0, .int .i64 a1_1, .bool a1_2, .bool a1_3, .int .i64 a1_4, .int .i64 a1_5, .bool a1_6, .bool a1_7] 33 (0, 0)) (by (with_reducible repeat (first | refine blk_drewN ?_ _ | refine blk_drew ?_ | refine blk_alloc ?_ _)); exact BK193.out)) : gb193 ≠ gb213)); have n9_ := Aside0.mk ((by rw [hg]; exact Nat.ne_of_gt (blk_lt (g := gb193) (o := .cells #[.int .i64 a1_0, .int .i64 a1_1, .bool a1_2, .bool a1_3, .int .i64 a1_4, .int .i64 a1_5, .bool a1_6, .bool a1_7] 33 (0, 0)) (by (with_reducible repeat (first | refine blk_drewN ?_ _ | refine blk_drew ?_ | refine blk_alloc ?_ _)); exact BK193.out)) : gb213 ≠ gb193)); clear BK192; clear BK193; clear HB; have BK192 := n0_; have BK193 := n1_; have HB := n2_; have BK213 := n3_; have GW213 := n4_; have GE213 := n5_; have NB192_213 := n6_; have NB213_192 := n7_; have NB193_213 := n8_; have NB213_193 := n9_; clear n0_ n1_ n2_ n3_ n4_ n5_ n6_ n7_ n8_ n9_; clear hb hbox hg; have hnb108 := NB213_192.out; have hnc108 := NB192_213.out; have hnb109 := NB213_193.out; have hnc109 := NB193_213.out; have hcz110_0 : w107.cell? ⟨gb213, 0, none⟩ = some (.int .i64 0) := (blk_cell BK213.out 0).trans rfl; have hcz110_1 : w107.cell? ⟨gb213, 1, none⟩ = some (.int .i64 0) := (blk_cell BK213.out 1).trans rfl; have hcz110_2 : w107.cell? ⟨gb213, 2, none⟩ = some (.bool false) := (blk_cell BK213.out 2).trans rfl; have hcz110_3 : w107.cell? ⟨gb213, 3, none⟩ = some (.bool false) := (blk_cell BK213.out 3).trans rfl; have hcz110_4 : w107.cell? ⟨gb213, 4, none⟩ = some (.int .i64 0) := (blk_cell BK213.out 4).trans rfl; have hcz110_5 : w107.cell? ⟨gb213, 5, none⟩ = some (.int .i64 0) := (blk_cell BK213.out 5).trans rfl; have hcz110_6 : w107.cell? ⟨gb213, 6, none⟩ = some (.bool false) := (blk_cell BK213.out 6).trans rfl; have hcz110_7 : w107.cell? ⟨gb213, 7, none⟩ = some (.bool false) := (blk_cell BK213.out 7).trans rfl; have hfz110_0 := blk_frozen BK213.out 0; have hfz110_1 := blk_frozen BK213.out 1; have hfz110_2 := blk_frozen BK213.out 2; have hfz110_3 := blk_frozen BK213.out 3; have hfz110_4 := blk_frozen BK213.out 4; have hfz110_5 := blk_frozen BK213.out 5; have hfz110_6 := blk_frozen BK213.out 6; have hfz110_7 := blk_frozen BK213.out 7; have hcz111_0 : w107.cell? ⟨gb192, 0, none⟩ = some (.int .i64 t196) := (blk_cell BK192.out 0).trans rfl; have hcz111_1 : w107.cell? ⟨gb192, 1, none⟩ = some (.int .i64 t197) := (blk_cell BK192.out 1).trans rfl; have hcz111_2 : w107.cell? ⟨gb192, 2, none⟩ = some (.bool t198) := (blk_cell BK192.out 2).trans rfl; have hcz111_3 : w107.cell? ⟨gb192, 3, none⟩ = some (.bool t199) := (blk_cell BK192.out 3).trans rfl; have hcz111_4 : w107.cell? ⟨gb192, 4, none⟩ = some (.int .i64 t200) := (blk_cell BK192.out 4).trans rfl; have hcz111_5 : w107.cell? ⟨gb192, 5, none⟩ = some (.int .i64 t201) := (blk_cell BK192.out 5).trans rfl; have hcz111_6 : w107.cell? ⟨gb192, 6, none⟩ = some (.bool t202) := (blk_cell BK192.out 6).trans rfl; have hcz111_7 : w107.cell? ⟨gb192, 7, none⟩ = some (.bool t203) := (blk_cell BK192.out 7).trans rfl; have hfz111_0 := blk_frozen BK192.out 0; have hfz111_1 := blk_frozen BK192.out 1; have hfz111_2 := blk_frozen BK192.out 2; have hfz111_3 := blk_frozen BK192.out 3; have hfz111_4 := blk_frozen BK192.out 4; have hfz111_5 := blk_frozen BK192.out 5; have hfz111_6 := blk_frozen BK192.out 6; have hfz111_7 := blk_frozen BK192.out 7) | ((with_reducible refine gate_callee (f := 53) rfl ?_); refine goesL_ (some 38) rfl rfl Try.func53 (by kernel_rfl) rfl #[.int .i64 t196, .int .i64 t197, .int .i64 t200, .int .i64 t201] rfl (by (try simp only [List.map_toArray, List.map_cons, List.map_nil]); first | done | rfl | (simp only [List.length_drop, List.length_take]; rfl)) ?_; (with_reducible refine (spec_l3Area.calls t196 t197 t200 t201 t214 t215 t216 t217 t218 t219 t220 t221 _ A100.out).mono ?_); rintro e w112 ⟨rfl, hb⟩; refine ⟨_, rfl, ?_⟩; have n0_ := Aside0.mk (blk_below (g := gb192) (o := .cells #[.int .i64 t196, .int .i64 t197, .bool t198, .bool t199, .int .i64 t200, .int .i64 t201, .bool t202, .bool t203] 33 (0, 0)) (by (with_reducible repeat (first | refine blk_drewN ?_ _ | refine blk_drew ?_ | refine blk_alloc ?_ _)); refine blk_far ?_ NB192_213.out _; (with_reducible repeat (first | refine blk_drewN ?_ _ | refine blk_drew ?_ | refine blk_alloc ?_ _)); refine blk_far ?_ NB192_213.out _; (with_reducible repeat (first | refine blk_drewN ?_ _ | refine blk_drew ?_ | refine blk_alloc ?_ _)); refine blk_far ?_ NB192_213.out _; (with_reducible repeat (first | refine blk_drewN ?_ _ | refine blk_drew ?_ | refine blk_alloc ?_ _)); refine blk_far ?_ NB192_213.out _; (with_reducible repeat (first | refine blk_drewN ?_ _ | refine blk_drew ?_ | refine blk_alloc ?_ _)); refine blk_far ?_ NB192_213.out _; (with_reducible repeat (first | refine blk_drewN ?_ _ | refine blk_drew ?_ | refine blk_alloc ?_ _)); refine blk_far ?_ NB192_213.out _; (with_reducible repeat (first | refine blk_drewN ?_ _ | refine blk_drew ?_ | refine blk_alloc ?_ _)); refine blk_far ?_ NB192_213.out _; (with_reducible repeat (first | refine blk_drewN ?_ _ | refine blk_drew ?_ | refine blk_alloc ?_ _)); refine blk_far ?_ NB192_213.out _; (with_reducible repeat (first | refine blk_drewN ?_ _ | refine blk_drew ?_ | refine blk_alloc ?_ _)); exact BK192.out) hb); have n1_ := Aside0.mk (blk_below (g := gb193) (o := .cells #[.int .i64 a1_0, .int .i64 a1_1, .bool a1_2, .bool a1_3, .int .i64 a1_4, .int .i64 a1_5, .bool a1_6, .bool a1_7] 33 (0, 0)) (by (with_reducible repeat (first | refine blk_drewN ?_ _ | refine blk_drew ?_ | refine blk_alloc ?_ _)); refine blk_far ?_ NB193_213.out _; (with_reducible repeat (first | refine blk_drewN ?_ _ | refine blk_drew ?_ | refine blk_alloc ?_ _)); refine blk_far ?_ NB193_213.out _; (with_reducible repeat (first | refine blk_drewN ?_ _ | refine blk_drew ?_ | refine blk_alloc ?_ _)); refine blk_far ?_ NB193_213.out _; (with_reducible repeat (first | refine blk_drewN ?_ _ | refine blk_drew ?_ | refine blk_alloc ?_ _)); refine blk_far ?_ NB193_213.out _; (with_reducible repeat (first | refine blk_drewN ?_ _ | refine blk_drew ?_ | refine blk_alloc ?_ _)); refine blk_far ?_ NB193_213.out _; (with_reducible repeat (first | refine blk_drewN ?_ _ | refine blk_drew ?_ | refine blk_alloc ?_ _)); refine blk_far ?_ NB193_213.out _; (with_reducible repeat (first | refine blk_drewN ?_ _ | refine blk_drew ?_ | refine blk_alloc ?_ _)); refine blk_far ?_ NB193_213.out _; (with_reducible repeat (first | refine blk_drewN ?_ _ | refine blk_drew ?_ | refine blk_alloc ?_ _)); refine blk_far ?_ NB193_213.out _; (with_reducible repeat (first | refine blk_drewN ?_ _ | refine blk_drew ?_ | refine blk_alloc ?_ _)); exact BK193.out) hb); have n2_ := Aside0.mk (blk_below (g := gb213) (o := .cells #[.int .i64 t204, .int .i64 t205, .bool t206, .bool t207, .int .i64 t208, .int .i64 t209, .bool t210, .bool t211] 33 (0, 0)) (by (with_reducible repeat (first | refine blk_drewN ?_ _ | refine blk_drew ?_ | refine blk_alloc ?_ _)); refine blk_put (cs := #[.int .i64 t204, .int .i64 t205, .bool t206, .bool t207, .int .i64 t208, .int .i64 t209, .bool t210, .bool false]) ?_ 7 _ rfl; (with_reducible repeat (first | refine blk_drewN ?_ _ | refine blk_drew ?_ | refine blk_alloc ?_ _)); refine blk_put (cs := #[.int .i64 t204, .int .i64 t205, .bool t206, .bool t207, .int .i64 t208, .int .i64 t209, .bool false, .bool false]) ?_ 6 _ rfl; (with_reducible repeat (first | refine blk_drewN ?_ _ | refine blk_drew ?_ | refine blk_alloc ?_ _)); refine blk_put (cs := #[.int .i64 t204, .int .i64 t205, .bool t206, .bool t207, .int .i64 t208, .int .i64 0, .bool false, .bool false]) ?_ 5 _ rfl; (with_reducible repeat (first | refine blk_drewN ?_ _ | refine blk_drew ?_ | refine blk_alloc ?_ _)); refine blk_put (cs := #[.int .i64 t204, .int .i64 t205, .bool t206, .bool t207, .int .i64 0, .int .i64 0, .bool false, .bool false]) ?_ 4 _ rfl; (with_reducible repeat (first | refine blk_drewN ?_ _ | refine blk_drew ?_ | refine blk_alloc ?_ _)); refine blk_put (cs := #[.int .i64 t204, .int .i64 t205, .bool t206, .bool false, .int .i64 0, .int .i64 0, .bool false, .bool false]) ?_ 3 _ rfl; (with_reducible repeat (first | refine blk_drewN ?_ _ | refine blk_drew ?_ | refine blk_alloc ?_ _)); refine blk_put (cs := #[.int .i64 t204, .int .i64 t205, .bool false, .bool false, .int .i64 0, .int .i64 0, .bool false, .bool false]) ?_ 2 _ rfl; (with_reducible repeat (first | refine blk_drewN ?_ _ | refine blk_drew ?_ | refine blk_alloc ?_ _)); refine blk_put (cs := #[.int .i64 t204, .int .i64 0, .bool false, .bool false, .int .i64 0, .int .i64 0, .bool false, .bool false]) ?_ 1 _ rfl; (with_reducible repeat (first | refine blk_drewN ?_ _ | refine blk_drew ?_ | refine blk_alloc ?_ _)); refine blk_put (cs := #[.int .i64 0, .int .i64 0, .bool false, .bool false, .int .i64 0, .int .i64 0, .bool false, .bool false]) ?_ 0 _ rfl; (with_reducible repeat (first | refine blk_drewN ?_ _ | refine blk_drew ?_ | refine blk_alloc ?_ _)); exact BK213.out) hb); have n3_ := Aside0.mk (below_step (by repeat (first | (with_reducible first | exact HB.out | apply below_alloc | apply pw_below_drewN | apply below_drew1 | refine below_set ?_ GE192.out | refine below_set ?_ GE193.out | refine below_set ?_ GE213.out) | exact HB.out)) hb); clear BK192; clear BK193; clear BK213; clear HB; have BK192 := n0_; have BK193 := n1_; have BK213 := n2_; have HB := n3_; clear n0_ n1_ n2_ n3_; (try clear hb); (try clear hb2); (try clear hk); (try clear hi)) | ((with_reducible refine gate_dst (N := 39) rfl ?_); refine Kd.R_lit k33 _ 33 ?hg (N := 39) ?hd (xs := ([(⟨(⟨t214, t215, t216, t217⟩ : S31), (⟨t218, t219, t220, t221⟩ : S31)⟩ : S33)] : List (S33))) (inner := [.int .i64 t214, .int .i64 t215, .bool t216, .bool t217, .int .i64 t218, .int .i64 t219, .bool t220, .bool t221]) (ok := fun _ => True) (okp := fun _ => True) ?hr ?hp (fun _ hk => hk) trivial (Below.refl _ _) (Nat.le_refl _) (by simp) ?_; (case hd => rfl); (case hg => rfl); (case hr => first | (go_simp; done) | (go_simp; rfl)); (case hp => exact (Reps.c8 (show Kd.M k33 _ _ _ (⟨(⟨t214, t215, t216, t217⟩ : S31), (⟨t218, t219, t220, t221⟩ : S31)⟩ : S33) [.int .i64 t214, .int .i64 t215, .bool t216, .bool t217, .int .i64 t218, .int .i64 t219, .bool t220, .bool t221] from (k33_mkM _ _ _ (⟨(⟨t214, t215, t216, t217⟩ : S31), (⟨t218, t219, t220, t221⟩ : S31)⟩ : S33) )) (Reps.none _ _))); intro v223 w113 ho114 hb hg_ hnew_; clear hg_ hnew_; (first | rw [← Ny222.out] at ho114 | (simp only [Int.reduceToNat] at ho114; rw [← Ny222.out] at ho114)); have n0_ := Aside0.mk (Kd.R_lower (Kd.R_newB (Kd.R_newB (Kd.R_newB ho114 (g := gb192) (o := .cells #[.int .i64 t196, .int .i64 t197, .bool t198, .bool t199, .int .i64 t200, .int .i64 t201, .bool t202, .bool t203] 33 (0, 0)) (by (with_reducible repeat (first | refine blk_drewN ?_ _ | refine blk_drew ?_ | refine blk_alloc ?_ _)); exact BK192.out)) (g := gb193) (o := .cells #[.int .i64 a1_0, .int .i64 a1_1, .bool a1_2, .bool a1_3, .int .i64 a1_4, .int .i64 a1_5, .bool a1_6, .bool a1_7] 33 (0, 0)) (by (with_reducible repeat (first | refine blk_drewN ?_ _ | refine blk_drew ?_ | refine blk_alloc ?_ _)); exact BK193.out)) (g := gb213) (o := .cells #[.int .i64 t204, .int .i64 t205, .bool t206, .bool t207, .int .i64 t208, .int .i64 t209, .bool t210, .bool t211] 33 (0, 0)) (by (with_reducible repeat (first | refine blk_drewN ?_ _ | refine blk_drew ?_ | refine blk_alloc ?_ _)); exact BK213.out)) (below_size (by repeat (first | (with_reducible first | exact HB.out | apply below_alloc | apply pw_below_drewN | apply below_drew1 | refine below_set ?_ GE192.out | refine below_set ?_ GE193.out | refine below_set ?_ GE213.out) | exact HB.out)))); have n1_ := Aside0.mk (blk_below (g := gb192) (o := .cells #[.int .i64 t196, .int .i64 t197, .bool t198, .bool t199, .int .i64 t200, .int .i64 t201, .bool t202, .bool t203] 33 (0, 0)) (by (with_reducible repeat (first | refine blk_drewN ?_ _ | refine blk_drew ?_ | refine blk_alloc ?_ _)); exact BK192.out) hb); have n2_ := Aside0.mk (blk_below (g := gb193) (o := .cells #[.int .i64 a1_0, .int .i64 a1_1, .bool a1_2, .bool a1_3, .int .i64 a1_4, .int .i64 a1_5, .bool a1_6, .bool a1_7] 33 (0, 0)) (by (with_reducible repeat (first | refine blk_drewN ?_ _ | refine blk_drew ?_ | refine blk_alloc ?_ _)); exact BK193.out) hb); have n3_ := Aside0.mk (blk_below (g := gb213) (o := .cells #[.int .i64 t204, .int .i64 t205, .bool t206, .bool t207, .int .i64 t208, .int .i64 t209, .bool t210, .bool t211] 33 (0, 0)) (by (with_reducible repeat (first | refine blk_drewN ?_ _ | refine blk_drew ?_ | refine blk_alloc ?_ _)); exact BK213.out) hb); have n4_ := Aside0.mk (below_step (by repeat (first | (with_reducible first | exact HB.out | apply below_alloc | apply pw_below_drewN | apply below_drew1 | refine below_set ?_ GE192.out | refine below_set ?_ GE193.out | refine below_set ?_ GE213.out) | exact HB.out)) hb); clear BK192; clear BK193; clear BK213; clear HB; have HO224 := n0_; have BK192 := n1_; have BK193 := n2_; have BK213 := n3_; have HB := n4_; clear n0_ n1_ n2_ n3_ n4_; clear hb ho114))
          go_ret
          exact ⟨_, by first | rfl | (simp [errW_none, errW_some] <;> rfl) | (simp [*, errW_none, errW_some] <;> rfl), by (with_reducible repeat (first | apply Kd.R_alloc | apply Kd.R_drewN | apply Kd.R_drew)); exact Kd.R_mono HO224.out (fun _ hk => trivial), by repeat (first | (with_reducible first | exact HB.out | apply below_alloc | apply pw_below_drewN | apply below_drew1 | refine below_set ?_ GE192.out | refine below_set ?_ GE193.out | refine below_set ?_ GE213.out) | exact HB.out)⟩

end Go.Proofs.Ytojfkjggpdlngaa.PFnExactWithout
