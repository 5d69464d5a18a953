/- Functions of the program as Lean functions, and proofs that the Go code comes to their answers: for the law FnExactTurnArea; made out of the print by a program of mine (compact.py). No conditions but each theorem's own. -/
import Derived.Test.YtaclplimbnihkaaMFnExactTurnAreaa0
import Derived.Test.YtaclplimbnihkaaMFnExactTurnAreaa1
import Derived.Test.YtaclplimbnihkaaMFnExactTurnAreaa2
import Derived.Test.YtaclplimbnihkaaMFnExactTurnAreaa6
namespace Go.Proofs.Ytaclplimbnihkaa.PFnExactTurnArea
open Go.RowKit Go.Proofs.YtaclplimbnihkaaW.PrintWords Go.Proofs.YtaclplimbnihkaaW.PrintLast Go.Proofs.YtaclplimbnihkaaW.PrintMore
attribute [local go_sem] max2_int min2_int max_two min_two max_three min_three max_four min_four   -- for this text's walks alone
set_option linter.unusedVariables false
set_option linter.unusedSimpArgs false

abbrev bt7_0 : Array Bool := #[false, false, false, false, false, false, false, false]
abbrev bt7_1 : Array Bool := #[false, false, true, false, false, false, false, false]
abbrev bt7_2 : Array Bool := #[false, false, true, false, false, true, false, false]
abbrev bt7_3 : Array Bool := #[true, false, true, false, false, true, false, false]
abbrev bt7_4 : Array Bool := #[true, false, true, true, false, true, false, false]
abbrev bt7_5 : Array Bool := #[true, false, true, true, false, true, true, false]
abbrev bt7_6 : Array Bool := #[true, true, true, true, false, true, true, false]
abbrev bt7_7 : Array Bool := #[true, true, true, true, true, true, true, false]
abbrev bt7_8 : Array Bool := #[true, true, true, true, true, true, true, true]
set_option maxHeartbeats 8000000 in
set_option maxRecDepth 100000 in
theorem impl_Turn_ends.calls_p1 (a0_0 : Int) (a0_1 : Int) (a0_2 : Int) (a0_3 : Bool) (a1 : Int) (a2 : Int) (r1 : Int) (r2 : Int) (r3 : Bool) (w : World) (t173 : _) (t174 : _) (t175 : _) (t176 : _) (A4 : Aside0 ((impl_Turn_line.f a0_0 a0_1 a0_2 a0_3 a1) = some (t173, t174))) (A5 : Aside0 ((impl_Turn_line.f a0_0 a0_1 a0_2 a0_3 a2) = some (t175, t176))) (c6 : a0_3 = true) (H : (if a0_3 = true then (if t174 = true then (if t176 = true then (some (t173, t175, decide (t173 ≤ t175))) else (some (t173, wrap64 (a0_1 - 1), decide (t173 ≤ (wrap64 (a0_1 - 1)))))) else (if t176 = true then (some (a0_1, t175, decide (a0_1 ≤ t175))) else (some (a0_1, wrap64 (a0_1 - 1), decide (a0_1 ≤ (wrap64 (a0_1 - 1))))))) else (if t176 = true then (some (t173, t175, t174)) else ((impl_Turn_most.f a0_0 a0_1 a0_2 a0_3).bind fun t177 => ((impl_Turn_most.f a0_0 a0_1 a0_2 a0_3).bind fun t178 => (if (wrap64 (t178 - a0_2)) < a0_1 then (some (t173, wrap64 (a0_1 - 1), t174)) else (some (t173, t177, t174))))))) = some (r1, r2, r3)) :
    Calls Try.prog 96 #[.agg #[.int .i64 a0_0, .int .i64 a0_1, .int .i64 a0_2, .bool a0_3], .int .i64 a1, .int .i64 a2] w fun e w' => e = .returned (.tuple #[.int .i64 r1, .int .i64 r2, .bool r3]) ∧ Below w.heap.size w w' := by
  have hu45 := Try.underlying45
  have HB := Aside0.mk (Below.refl w.heap.size w)
  subst c6
  have H1 : (if t174 = true then (if t176 = true then (some (t173, t175, decide (t173 ≤ t175))) else (some (t173, wrap64 (a0_1 - 1), decide (t173 ≤ (wrap64 (a0_1 - 1)))))) else (if t176 = true then (some (a0_1, t175, decide (a0_1 ≤ t175))) else (some (a0_1, wrap64 (a0_1 - 1), decide (a0_1 ≤ (wrap64 (a0_1 - 1))))))) = some (r1, r2, r3) := by rw [if_pos rfl] at H; exact H
  clear H
  have H := H1
  clear H1
  by_cases c7 : t174 = true
  · subst c7
    have H1 : (if t176 = true then (some (t173, t175, decide (t173 ≤ t175))) else (some (t173, wrap64 (a0_1 - 1), decide (t173 ≤ (wrap64 (a0_1 - 1)))))) = some (r1, r2, r3) := by rw [if_pos rfl] at H; exact H
    clear H
    have H := H1
    clear H1
    by_cases c8 : t176 = true
    · subst c8
      have H1 : (some (t173, t175, decide (t173 ≤ t175))) = some (r1, r2, r3) := by rw [if_pos rfl] at H; exact H
      clear H
      have H := H1
      clear H1
      simp only [Option.some.injEq, Prod.mk.injEq] at H
      obtain ⟨rfl, rfl, rfl⟩ := H
      go_enter Try.func96, Try.ntmps96
      go_wp2_with (first | ((with_reducible refine gate_dst (N := 3) rfl ?_); refine box_event ?hg (N := 3) ?hd (cs := #[.int .i64 a0_0, .int .i64 a0_1, .int .i64 a0_2, .bool true]) (t := 45) ?hr ?_; (case hd => rfl); (case hg => rfl); (case hr => first | (go_simp; done) | (go_simp; rfl)); intro gb172 hg w9 hbox hb; have n0_ := Aside0.mk (below_step (by repeat (first | (with_reducible first | exact HB.out | apply below_alloc | apply pw_below_drewN | apply below_drew1) | exact HB.out)) hb); have n1_ := Aside0.mk (hbox); have n2_ := Aside0.mk ((by rw [hg]; exact (below_size (by repeat (first | (with_reducible first | exact HB.out | apply below_alloc | apply pw_below_drewN | apply below_drew1) | exact HB.out))) : w.heap.size ≤ gb172)); have n3_ := Aside0.mk ((by rw [hg]; exact (below_size (by repeat (first | (with_reducible first | exact HB.out | apply below_alloc | apply pw_below_drewN | apply below_drew1) | exact HB.out))) : w.heap.size ≤ gb172)); clear HB; have HB := n0_; have BK172 := n1_; have GW172 := n2_; have GE172 := n3_; clear n0_ n1_ n2_ n3_; clear hb hbox hg; have hcz10_0 : w9.cell? ⟨gb172, 0, none⟩ = some (.int .i64 a0_0) := (blk_cell BK172.out 0).trans rfl; have hcz10_1 : w9.cell? ⟨gb172, 1, none⟩ = some (.int .i64 a0_1) := (blk_cell BK172.out 1).trans rfl; have hcz10_2 : w9.cell? ⟨gb172, 2, none⟩ = some (.int .i64 a0_2) := (blk_cell BK172.out 2).trans rfl; have hcz10_3 : w9.cell? ⟨gb172, 3, none⟩ = some (.bool true) := (blk_cell BK172.out 3).trans rfl; have hfz10_0 := blk_frozen BK172.out 0; have hfz10_1 := blk_frozen BK172.out 1; have hfz10_2 := blk_frozen BK172.out 2; have hfz10_3 := blk_frozen BK172.out 3) | ((with_reducible refine gate_callee (f := 82) rfl ?_); refine goesL_ (some 16) rfl rfl Try.func82 (by kernel_rfl) rfl #[.agg #[.int .i64 a0_0, .int .i64 a0_1, .int .i64 a0_2, .bool true], .int .i64 a1] rfl (by (try simp only [List.map_toArray, List.map_cons, List.map_nil]); first | done | rfl | (simp only [List.length_drop, List.length_take]; rfl)) ?_; (with_reducible refine (impl_Turn_line.calls a0_0 a0_1 a0_2 true a1 t173 true _ A4.out).mono ?_); rintro e w11 ⟨rfl, hb⟩; refine ⟨_, rfl, ?_⟩; have n0_ := Aside0.mk (blk_below (g := gb172) (o := .cells #[.int .i64 a0_0, .int .i64 a0_1, .int .i64 a0_2, .bool true] 45 (0, 0)) (by (with_reducible repeat (first | refine blk_drewN ?_ _ | refine blk_drew ?_ | refine blk_alloc ?_ _)); exact BK172.out) hb); have n1_ := Aside0.mk (below_step (by repeat (first | (with_reducible first | exact HB.out | apply below_alloc | apply pw_below_drewN | apply below_drew1 | refine below_set ?_ GE172.out) | exact HB.out)) hb); clear BK172; clear HB; have BK172 := n0_; have HB := n1_; clear n0_ n1_; (try clear hb); (try clear hb2); (try clear hk); (try clear hi); have hcz12_0 : w11.cell? ⟨gb172, 0, none⟩ = some (.int .i64 a0_0) := (blk_cell BK172.out 0).trans rfl; have hcz12_1 : w11.cell? ⟨gb172, 1, none⟩ = some (.int .i64 a0_1) := (blk_cell BK172.out 1).trans rfl; have hcz12_2 : w11.cell? ⟨gb172, 2, none⟩ = some (.int .i64 a0_2) := (blk_cell BK172.out 2).trans rfl; have hcz12_3 : w11.cell? ⟨gb172, 3, none⟩ = some (.bool true) := (blk_cell BK172.out 3).trans rfl; have hfz12_0 := blk_frozen BK172.out 0; have hfz12_1 := blk_frozen BK172.out 1; have hfz12_2 := blk_frozen BK172.out 2; have hfz12_3 := blk_frozen BK172.out 3) | ((with_reducible refine gate_callee (f := 82) rfl ?_); refine goesL_ (some 22) rfl rfl Try.func82 (by kernel_rfl) rfl #[.agg #[.int .i64 a0_0, .int .i64 a0_1, .int .i64 a0_2, .bool true], .int .i64 a2] rfl (by (try simp only [List.map_toArray, List.map_cons, List.map_nil]); first | done | rfl | (simp only [List.length_drop, List.length_take]; rfl)) ?_; (with_reducible refine (impl_Turn_line.calls a0_0 a0_1 a0_2 true a2 t175 true _ A5.out).mono ?_); rintro e w13 ⟨rfl, hb⟩; refine ⟨_, rfl, ?_⟩; have n0_ := Aside0.mk (blk_below (g := gb172) (o := .cells #[.int .i64 a0_0, .int .i64 a0_1, .int .i64 a0_2, .bool true] 45 (0, 0)) (by (with_reducible repeat (first | refine blk_drewN ?_ _ | refine blk_drew ?_ | refine blk_alloc ?_ _)); exact BK172.out) hb); have n1_ := Aside0.mk (below_step (by repeat (first | (with_reducible first | exact HB.out | apply below_alloc | apply pw_below_drewN | apply below_drew1 | refine below_set ?_ GE172.out) | exact HB.out)) hb); clear BK172; clear HB; have BK172 := n0_; have HB := n1_; clear n0_ n1_; (try clear hb); (try clear hb2); (try clear hk); (try clear hi); have hcz14_0 : w13.cell? ⟨gb172, 0, none⟩ = some (.int .i64 a0_0) := (blk_cell BK172.out 0).trans rfl; have hcz14_1 : w13.cell? ⟨gb172, 1, none⟩ = some (.int .i64 a0_1) := (blk_cell BK172.out 1).trans rfl; have hcz14_2 : w13.cell? ⟨gb172, 2, none⟩ = some (.int .i64 a0_2) := (blk_cell BK172.out 2).trans rfl; have hcz14_3 : w13.cell? ⟨gb172, 3, none⟩ = some (.bool true) := (blk_cell BK172.out 3).trans rfl; have hfz14_0 := blk_frozen BK172.out 0; have hfz14_1 := blk_frozen BK172.out 1; have hfz14_2 := blk_frozen BK172.out 2; have hfz14_3 := blk_frozen BK172.out 3))
      go_ret3
      exact ⟨by first | rfl | (simp [errW_none, errW_some] <;> rfl) | (simp [*, errW_none, errW_some] <;> rfl), by repeat (first | (with_reducible first | exact HB.out | apply below_alloc | apply pw_below_drewN | apply below_drew1 | refine below_set ?_ GE172.out) | exact HB.out)⟩
    · replace c8 := Bool.eq_false_iff.mpr c8
      subst c8
      have H1 : (some (t173, wrap64 (a0_1 - 1), decide (t173 ≤ (wrap64 (a0_1 - 1))))) = some (r1, r2, r3) := by rw [if_neg (show ¬ (false = true) by decide)] at H; exact H
      clear H
      have H := H1
      clear H1
      simp only [Option.some.injEq, Prod.mk.injEq] at H
      obtain ⟨rfl, rfl, rfl⟩ := H
      go_enter Try.func96, Try.ntmps96
      go_wp2_with (first | ((with_reducible refine gate_dst (N := 3) rfl ?_); refine box_event ?hg (N := 3) ?hd (cs := #[.int .i64 a0_0, .int .i64 a0_1, .int .i64 a0_2, .bool true]) (t := 45) ?hr ?_; (case hd => rfl); (case hg => rfl); (case hr => first | (go_simp; done) | (go_simp; rfl)); intro gb172 hg w15 hbox hb; have n0_ := Aside0.mk (below_step (by repeat (first | (with_reducible first | exact HB.out | apply below_alloc | apply pw_below_drewN | apply below_drew1) | exact HB.out)) hb); have n1_ := Aside0.mk (hbox); have n2_ := Aside0.mk ((by rw [hg]; exact (below_size (by repeat (first | (with_reducible first | exact HB.out | apply below_alloc | apply pw_below_drewN | apply below_drew1) | exact HB.out))) : w.heap.size ≤ gb172)); have n3_ := Aside0.mk ((by rw [hg]; exact (below_size (by repeat (first | (with_reducible first | exact HB.out | apply below_alloc | apply pw_below_drewN | apply below_drew1) | exact HB.out))) : w.heap.size ≤ gb172)); clear HB; have HB := n0_; have BK172 := n1_; have GW172 := n2_; have GE172 := n3_; clear n0_ n1_ n2_ n3_; clear hb hbox hg; have hcz16_0 : w15.cell? ⟨gb172, 0, none⟩ = some (.int .i64 a0_0) := (blk_cell BK172.out 0).trans rfl; have hcz16_1 : w15.cell? ⟨gb172, 1, none⟩ = some (.int .i64 a0_1) := (blk_cell BK172.out 1).trans rfl; have hcz16_2 : w15.cell? ⟨gb172, 2, none⟩ = some (.int .i64 a0_2) := (blk_cell BK172.out 2).trans rfl; have hcz16_3 : w15.cell? ⟨gb172, 3, none⟩ = some (.bool true) := (blk_cell BK172.out 3).trans rfl; have hfz16_0 := blk_frozen BK172.out 0; have hfz16_1 := blk_frozen BK172.out 1; have hfz16_2 := blk_frozen BK172.out 2; have hfz16_3 := blk_frozen BK172.out 3) | ((with_reducible refine gate_callee (f := 82) rfl ?_); refine goesL_ (some 16) rfl rfl Try.func82 (by kernel_rfl) rfl #[.agg #[.int .i64 a0_0, .int .i64 a0_1, .int .i64 a0_2, .bool true], .int .i64 a1] rfl (by (try simp only [List.map_toArray, List.map_cons, List.map_nil]); first | done | rfl | (simp only [List.length_drop, List.length_take]; rfl)) ?_; (with_reducible refine (impl_Turn_line.calls a0_0 a0_1 a0_2 true a1 t173 true _ A4.out).mono ?_); rintro e w17 ⟨rfl, hb⟩; refine ⟨_, rfl, ?_⟩; have n0_ := Aside0.mk (blk_below (g := gb172) (o := .cells #[.int .i64 a0_0, .int .i64 a0_1, .int .i64 a0_2, .bool true] 45 (0, 0)) (by (with_reducible repeat (first | refine blk_drewN ?_ _ | refine blk_drew ?_ | refine blk_alloc ?_ _)); exact BK172.out) hb); have n1_ := Aside0.mk (below_step (by repeat (first | (with_reducible first | exact HB.out | apply below_alloc | apply pw_below_drewN | apply below_drew1 | refine below_set ?_ GE172.out) | exact HB.out)) hb); clear BK172; clear HB; have BK172 := n0_; have HB := n1_; clear n0_ n1_; (try clear hb); (try clear hb2); (try clear hk); (try clear hi); have hcz18_0 : w17.cell? ⟨gb172, 0, none⟩ = some (.int .i64 a0_0) := (blk_cell BK172.out 0).trans rfl; have hcz18_1 : w17.cell? ⟨gb172, 1, none⟩ = some (.int .i64 a0_1) := (blk_cell BK172.out 1).trans rfl; have hcz18_2 : w17.cell? ⟨gb172, 2, none⟩ = some (.int .i64 a0_2) := (blk_cell BK172.out 2).trans rfl; have hcz18_3 : w17.cell? ⟨gb172, 3, none⟩ = some (.bool true) := (blk_cell BK172.out 3).trans rfl; have hfz18_0 := blk_frozen BK172.out 0; have hfz18_1 := blk_frozen BK172.out 1; have hfz18_2 := blk_frozen BK172.out 2; have hfz18_3 := blk_frozen BK172.out 3) | ((with_reducible refine gate_callee (f := 82) rfl ?_); refine goesL_ (some 22) rfl rfl Try.func82 (by kernel_rfl) rfl #[.agg #[.int .i64 a0_0, .int .i64 a0_1, .int .i64 a0_2, .bool true], .int .i64 a2] rfl (by (try simp only [List.map_toArray, List.map_cons, List.map_nil]); first | done | rfl | (simp only [List.length_drop, List.length_take]; rfl)) ?_; (with_reducible refine (impl_Turn_line.calls a0_0 a0_1 a0_2 true a2 t175 false _ A5.out).mono ?_); rintro e w19 ⟨rfl, hb⟩; refine ⟨_, rfl, ?_⟩; have n0_ := Aside0.mk (blk_below (g := gb172) (o := .cells #[.int .i64 a0_0, .int .i64 a0_1, .int .i64 a0_2, .bool true] 45 (0, 0)) (by (with_reducible repeat (first | refine blk_drewN ?_ _ | refine blk_drew ?_ | refine blk_alloc ?_ _)); exact BK172.out) hb); have n1_ := Aside0.mk (below_step (by repeat (first | (with_reducible first | exact HB.out | apply below_alloc | apply pw_below_drewN | apply below_drew1 | refine below_set ?_ GE172.out) | exact HB.out)) hb); clear BK172; clear HB; have BK172 := n0_; have HB := n1_; clear n0_ n1_; (try clear hb); (try clear hb2); (try clear hk); (try clear hi); have hcz20_0 : w19.cell? ⟨gb172, 0, none⟩ = some (.int .i64 a0_0) := (blk_cell BK172.out 0).trans rfl; have hcz20_1 : w19.cell? ⟨gb172, 1, none⟩ = some (.int .i64 a0_1) := (blk_cell BK172.out 1).trans rfl; have hcz20_2 : w19.cell? ⟨gb172, 2, none⟩ = some (.int .i64 a0_2) := (blk_cell BK172.out 2).trans rfl; have hcz20_3 : w19.cell? ⟨gb172, 3, none⟩ = some (.bool true) := (blk_cell BK172.out 3).trans rfl; have hfz20_0 := blk_frozen BK172.out 0; have hfz20_1 := blk_frozen BK172.out 1; have hfz20_2 := blk_frozen BK172.out 2; have hfz20_3 := blk_frozen BK172.out 3))
      go_ret3
      exact ⟨by first | rfl | (simp [errW_none, errW_some] <;> rfl) | (simp [*, errW_none, errW_some] <;> rfl), by repeat (first | (with_reducible first | exact HB.out | apply below_alloc | apply pw_below_drewN | apply below_drew1 | refine below_set ?_ GE172.out) | exact HB.out)⟩
  · replace c7 := Bool.eq_false_iff.mpr c7
    subst c7
    have H1 : (if t176 = true then (some (a0_1, t175, decide (a0_1 ≤ t175))) else (some (a0_1, wrap64 (a0_1 - 1), decide (a0_1 ≤ (wrap64 (a0_1 - 1)))))) = some (r1, r2, r3) := by rw [if_neg (show ¬ (false = true) by decide)] at H; exact H
    clear H
    have H := H1
    clear H1
    by_cases c21 : t176 = true
    · subst c21
      have H1 : (some (a0_1, t175, decide (a0_1 ≤ t175))) = some (r1, r2, r3) := by rw [if_pos rfl] at H; exact H
      clear H
      have H := H1
      clear H1
      simp only [Option.some.injEq, Prod.mk.injEq] at H
      obtain ⟨rfl, rfl, rfl⟩ := H
      go_enter Try.func96, Try.ntmps96
      go_wp2_with (first | ((with_reducible refine gate_dst (N := 3) rfl ?_); refine box_event ?hg (N := 3) ?hd (cs := #[.int .i64 a0_0, .int .i64 a0_1, .int .i64 a0_2, .bool true]) (t := 45) ?hr ?_; (case hd => rfl); (case hg => rfl); (case hr => first | (go_simp; done) | (go_simp; rfl)); intro gb172 hg w22 hbox hb; have n0_ := Aside0.mk (below_step (by repeat (first | (with_reducible first | exact HB.out | apply below_alloc | apply pw_below_drewN | apply below_drew1) | exact HB.out)) hb); have n1_ := Aside0.mk (hbox); have n2_ := Aside0.mk ((by rw [hg]; exact (below_size (by repeat (first | (with_reducible first | exact HB.out | apply below_alloc | apply pw_below_drewN | apply below_drew1) | exact HB.out))) : w.heap.size ≤ gb172)); have n3_ := Aside0.mk ((by rw [hg]; exact (below_size (by repeat (first | (with_reducible first | exact HB.out | apply below_alloc | apply pw_below_drewN | apply below_drew1) | exact HB.out))) : w.heap.size ≤ gb172)); clear HB; have HB := n0_; have BK172 := n1_; have GW172 := n2_; have GE172 := n3_; clear n0_ n1_ n2_ n3_; clear hb hbox hg; have hcz23_0 : w22.cell? ⟨gb172, 0, none⟩ = some (.int .i64 a0_0) := (blk_cell BK172.out 0).trans rfl; have hcz23_1 : w22.cell? ⟨gb172, 1, none⟩ = some (.int .i64 a0_1) := (blk_cell BK172.out 1).trans rfl; have hcz23_2 : w22.cell? ⟨gb172, 2, none⟩ = some (.int .i64 a0_2) := (blk_cell BK172.out 2).trans rfl; have hcz23_3 : w22.cell? ⟨gb172, 3, none⟩ = some (.bool true) := (blk_cell BK172.out 3).trans rfl; have hfz23_0 := blk_frozen BK172.out 0; have hfz23_1 := blk_frozen BK172.out 1; have hfz23_2 := blk_frozen BK172.out 2; have hfz23_3 := blk_frozen BK172.out 3) | ((with_reducible refine gate_callee (f := 82) rfl ?_); refine goesL_ (some 16) rfl rfl Try.func82 (by kernel_rfl) rfl #[.agg #[.int .i64 a0_0, .int .i64 a0_1, .int .i64 a0_2, .bool true], .int .i64 a1] rfl (by (try simp only [List.map_toArray, List.map_cons, List.map_nil]); first | done | rfl | (simp only [List.length_drop, List.length_take]; rfl)) ?_; (with_reducible refine (impl_Turn_line.calls a0_0 a0_1 a0_2 true a1 t173 false _ A4.out).mono ?_); rintro e w24 ⟨rfl, hb⟩; refine ⟨_, rfl, ?_⟩; have n0_ := Aside0.mk (blk_below (g := gb172) (o := .cells #[.int .i64 a0_0, .int .i64 a0_1, .int .i64 a0_2, .bool true] 45 (0, 0)) (by (with_reducible repeat (first | refine blk_drewN ?_ _ | refine blk_drew ?_ | refine blk_alloc ?_ _)); exact BK172.out) hb); have n1_ := Aside0.mk (below_step (by repeat (first | (with_reducible first | exact HB.out | apply below_alloc | apply pw_below_drewN | apply below_drew1 | refine below_set ?_ GE172.out) | exact HB.out)) hb); clear BK172; clear HB; have BK172 := n0_; have HB := n1_; clear n0_ n1_; (try clear hb); (try clear hb2); (try clear hk); (try clear hi); have hcz25_0 : w24.cell? ⟨gb172, 0, none⟩ = some (.int .i64 a0_0) := (blk_cell BK172.out 0).trans rfl; have hcz25_1 : w24.cell? ⟨gb172, 1, none⟩ = some (.int .i64 a0_1) := (blk_cell BK172.out 1).trans rfl; have hcz25_2 : w24.cell? ⟨gb172, 2, none⟩ = some (.int .i64 a0_2) := (blk_cell BK172.out 2).trans rfl; have hcz25_3 : w24.cell? ⟨gb172, 3, none⟩ = some (.bool true) := (blk_cell BK172.out 3).trans rfl; have hfz25_0 := blk_frozen BK172.out 0; have hfz25_1 := blk_frozen BK172.out 1; have hfz25_2 := blk_frozen BK172.out 2; have hfz25_3 := blk_frozen BK172.out 3) | ((with_reducible refine gate_callee (f := 82) rfl ?_); refine goesL_ (some 22) rfl rfl Try.func82 (by kernel_rfl) rfl #[.agg #[.int .i64 a0_0, .int .i64 a0_1, .int .i64 a0_2, .bool true], .int .i64 a2] rfl (by (try simp only [List.map_toArray, List.map_cons, List.map_nil]); first | done | rfl | (simp only [List.length_drop, List.length_take]; rfl)) ?_; (with_reducible refine (impl_Turn_line.calls a0_0 a0_1 a0_2 true a2 t175 true _ A5.out).mono ?_); rintro e w26 ⟨rfl, hb⟩; refine ⟨_, rfl, ?_⟩; have n0_ := Aside0.mk (blk_below (g := gb172) (o := .cells #[.int .i64 a0_0, .int .i64 a0_1, .int .i64 a0_2, .bool true] 45 (0, 0)) (by (with_reducible repeat (first | refine blk_drewN ?_ _ | refine blk_drew ?_ | refine blk_alloc ?_ _)); exact BK172.out) hb); have n1_ := Aside0.mk (below_step (by repeat (first | (with_reducible first | exact HB.out | apply below_alloc | apply pw_below_drewN | apply below_drew1 | refine below_set ?_ GE172.out) | exact HB.out)) hb); clear BK172; clear HB; have BK172 := n0_; have HB := n1_; clear n0_ n1_; (try clear hb); (try clear hb2); (try clear hk); (try clear hi); have hcz27_0 : w26.cell? ⟨gb172, 0, none⟩ = some (.int .i64 a0_0) := (blk_cell BK172.out 0).trans rfl; have hcz27_1 : w26.cell? ⟨gb172, 1, none⟩ = some (.int .i64 a0_1) := (blk_cell BK172.out 1).trans rfl; have hcz27_2 : w26.cell? ⟨gb172, 2, none⟩ = some (.int .i64 a0_2) := (blk_cell BK172.out 2).trans rfl; have hcz27_3 : w26.cell? ⟨gb172, 3, none⟩ = some (.bool true) := (blk_cell BK172.out 3).trans rfl; have hfz27_0 := blk_frozen BK172.out 0; have hfz27_1 := blk_frozen BK172.out 1; have hfz27_2 := blk_frozen BK172.out 2; have hfz27_3 := blk_frozen BK172.out 3))
      go_ret3
      exact ⟨by first | rfl | (simp [errW_none, errW_some] <;> rfl) | (simp [*, errW_none, errW_some] <;> rfl), by repeat (first | (with_reducible first | exact HB.out | apply below_alloc | apply pw_below_drewN | apply below_drew1 | refine below_set ?_ GE172.out) | exact HB.out)⟩
    · replace c21 := Bool.eq_false_iff.mpr c21
      subst c21
      have H1 : (some (a0_1, wrap64 (a0_1 - 1), decide (a0_1 ≤ (wrap64 (a0_1 - 1))))) = some (r1, r2, r3) := by rw [if_neg (show ¬ (false = true) by decide)] at H; exact H
      clear H
      have H := H1
      clear H1
      simp only [Option.some.injEq, Prod.mk.injEq] at H
      obtain ⟨rfl, rfl, rfl⟩ := H
      go_enter Try.func96, Try.ntmps96
      go_wp2_with (first | ((with_reducible refine gate_dst (N := 3) rfl ?_); refine box_event ?hg (N := 3) ?hd (cs := #[.int .i64 a0_0, .int .i64 a0_1, .int .i64 a0_2, .bool true]) (t := 45) ?hr ?_; (case hd => rfl); (case hg => rfl); (case hr => first | (go_simp; done) | (go_simp; rfl)); intro gb172 hg w28 hbox hb; have n0_ := Aside0.mk (below_step (by repeat (first | (with_reducible first | exact HB.out | apply below_alloc | apply pw_below_drewN | apply below_drew1) | exact HB.out)) hb); have n1_ := Aside0.mk (hbox); have n2_ := Aside0.mk ((by rw [hg]; exact (below_size (by repeat (first | (with_reducible first | exact HB.out | apply below_alloc | apply pw_below_drewN | apply below_drew1) | exact HB.out))) : w.heap.size ≤ gb172)); have n3_ := Aside0.mk ((by rw [hg]; exact (below_size (by repeat (first | (with_reducible first | exact HB.out | apply below_alloc | apply pw_below_drewN | apply below_drew1) | exact HB.out))) : w.heap.size ≤ gb172)); clear HB; have HB := n0_; have BK172 := n1_; have GW172 := n2_; have GE172 := n3_; clear n0_ n1_ n2_ n3_; clear hb hbox hg; have hcz29_0 : w28.cell? ⟨gb172, 0, none⟩ = some (.int .i64 a0_0) := (blk_cell BK172.out 0).trans rfl; have hcz29_1 : w28.cell? ⟨gb172, 1, none⟩ = some (.int .i64 a0_1) := (blk_cell BK172.out 1).trans rfl; have hcz29_2 : w28.cell? ⟨gb172, 2, none⟩ = some (.int .i64 a0_2) := (blk_cell BK172.out 2).trans rfl; have hcz29_3 : w28.cell? ⟨gb172, 3, none⟩ = some (.bool true) := (blk_cell BK172.out 3).trans rfl; have hfz29_0 := blk_frozen BK172.out 0; have hfz29_1 := blk_frozen BK172.out 1; have hfz29_2 := blk_frozen BK172.out 2; have hfz29_3 := blk_frozen BK172.out 3) | ((with_reducible refine gate_callee (f := 82) rfl ?_); refine goesL_ (some 16) rfl rfl Try.func82 (by kernel_rfl) rfl #[.agg #[.int .i64 a0_0, .int .i64 a0_1, .int .i64 a0_2, .bool true], .int .i64 a1] rfl (by (try simp only [List.map_toArray, List.map_cons, List.map_nil]); first | done | rfl | (simp only [List.length_drop, List.length_take]; rfl)) ?_; (with_reducible refine (impl_Turn_line.calls a0_0 a0_1 a0_2 true a1 t173 false _ A4.out).mono ?_); rintro e w30 ⟨rfl, hb⟩; refine ⟨_, rfl, ?_⟩; have n0_ := Aside0.mk (blk_below (g := gb172) (o := .cells #[.int .i64 a0_0, .int .i64 a0_1, .int .i64 a0_2, .bool true] 45 (0, 0)) (by (with_reducible repeat (first | refine blk_drewN ?_ _ | refine blk_drew ?_ | refine blk_alloc ?_ _)); exact BK172.out) hb); have n1_ := Aside0.mk (below_step (by repeat (first | (with_reducible first | exact HB.out | apply below_alloc | apply pw_below_drewN | apply below_drew1 | refine below_set ?_ GE172.out) | exact HB.out)) hb); clear BK172; clear HB; have BK172 := n0_; have HB := n1_; clear n0_ n1_; (try clear hb); (try clear hb2); (try clear hk); (try clear hi); have hcz31_0 : w30.cell? ⟨gb172, 0, none⟩ = some (.int .i64 a0_0) := (blk_cell BK172.out 0).trans rfl; have hcz31_1 : w30.cell? ⟨gb172, 1, none⟩ = some (.int .i64 a0_1) := (blk_cell BK172.out 1).trans rfl; have hcz31_2 : w30.cell? ⟨gb172, 2, none⟩ = some (.int .i64 a0_2) := (blk_cell BK172.out 2).trans rfl; have hcz31_3 : w30.cell? ⟨gb172, 3, none⟩ = some (.bool true) := (blk_cell BK172.out 3).trans rfl; have hfz31_0 := blk_frozen BK172.out 0; have hfz31_1 := blk_frozen BK172.out 1; have hfz31_2 := blk_frozen BK172.out 2; have hfz31_3 := blk_frozen BK172.out 3) | ((with_reducible refine gate_callee (f := 82) rfl ?_); refine goesL_ (some 22) rfl rfl Try.func82 (by kernel_rfl) rfl #[.agg #[.int .i64 a0_0, .int .i64 a0_1, .int .i64 a0_2, .bool true], .int .i64 a2] rfl (by (try simp only [List.map_toArray, List.map_cons, List.map_nil]); first | done | rfl | (simp only [List.length_drop, List.length_take]; rfl)) ?_; (with_reducible refine (impl_Turn_line.calls a0_0 a0_1 a0_2 true a2 t175 false _ A5.out).mono ?_); rintro e w32 ⟨rfl, hb⟩; refine ⟨_, rfl, ?_⟩; have n0_ := Aside0.mk (blk_below (g := gb172) (o := .cells #[.int .i64 a0_0, .int .i64 a0_1, .int .i64 a0_2, .bool true] 45 (0, 0)) (by (with_reducible repeat (first | refine blk_drewN ?_ _ | refine blk_drew ?_ | refine blk_alloc ?_ _)); exact BK172.out) hb); have n1_ := Aside0.mk (below_step (by repeat (first | (with_reducible first | exact HB.out | apply below_alloc | apply pw_below_drewN | apply below_drew1 | refine below_set ?_ GE172.out) | exact HB.out)) hb); clear BK172; clear HB; have BK172 := n0_; have HB := n1_; clear n0_ n1_; (try clear hb); (try clear hb2); (try clear hk); (try clear hi); have hcz33_0 : w32.cell? ⟨gb172, 0, none⟩ = some (.int .i64 a0_0) := (blk_cell BK172.out 0).trans rfl; have hcz33_1 : w32.cell? ⟨gb172, 1, none⟩ = some (.int .i64 a0_1) := (blk_cell BK172.out 1).trans rfl; have hcz33_2 : w32.cell? ⟨gb172, 2, none⟩ = some (.int .i64 a0_2) := (blk_cell BK172.out 2).trans rfl; have hcz33_3 : w32.cell? ⟨gb172, 3, none⟩ = some (.bool true) := (blk_cell BK172.out 3).trans rfl; have hfz33_0 := blk_frozen BK172.out 0; have hfz33_1 := blk_frozen BK172.out 1; have hfz33_2 := blk_frozen BK172.out 2; have hfz33_3 := blk_frozen BK172.out 3))
      go_ret3
      exact ⟨by first | rfl | (simp [errW_none, errW_some] <;> rfl) | (simp [*, errW_none, errW_some] <;> rfl), by repeat (first | (with_reducible first | exact HB.out | apply below_alloc | apply pw_below_drewN | apply below_drew1 | refine below_set ?_ GE172.out) | exact HB.out)⟩

set_option maxHeartbeats 8000000 in
set_option maxRecDepth 100000 in
theorem impl_Turn_ends.calls_p2 (a0_0 : Int) (a0_1 : Int) (a0_2 : Int) (a0_3 : Bool) (a1 : Int) (a2 : Int) (r1 : Int) (r2 : Int) (r3 : Bool) (w : World) (t173 : _) (t174 : _) (t175 : _) (t176 : _) (A4 : Aside0 ((impl_Turn_line.f a0_0 a0_1 a0_2 a0_3 a1) = some (t173, t174))) (A5 : Aside0 ((impl_Turn_line.f a0_0 a0_1 a0_2 a0_3 a2) = some (t175, t176))) (c6 : ¬ (a0_3 = true)) (H : (if a0_3 = true then (if t174 = true then (if t176 = true then (some (t173, t175, decide (t173 ≤ t175))) else (some (t173, wrap64 (a0_1 - 1), decide (t173 ≤ (wrap64 (a0_1 - 1)))))) else (if t176 = true then (some (a0_1, t175, decide (a0_1 ≤ t175))) else (some (a0_1, wrap64 (a0_1 - 1), decide (a0_1 ≤ (wrap64 (a0_1 - 1))))))) else (if t176 = true then (some (t173, t175, t174)) else ((impl_Turn_most.f a0_0 a0_1 a0_2 a0_3).bind fun t177 => ((impl_Turn_most.f a0_0 a0_1 a0_2 a0_3).bind fun t178 => (if (wrap64 (t178 - a0_2)) < a0_1 then (some (t173, wrap64 (a0_1 - 1), t174)) else (some (t173, t177, t174))))))) = some (r1, r2, r3)) :
    Calls Try.prog 96 #[.agg #[.int .i64 a0_0, .int .i64 a0_1, .int .i64 a0_2, .bool a0_3], .int .i64 a1, .int .i64 a2] w fun e w' => e = .returned (.tuple #[.int .i64 r1, .int .i64 r2, .bool r3]) ∧ Below w.heap.size w w' := by
  have hu45 := Try.underlying45
  have HB := Aside0.mk (Below.refl w.heap.size w)
  replace c6 := Bool.eq_false_iff.mpr c6
  subst c6
  have H1 : (if t176 = true then (some (t173, t175, t174)) else ((impl_Turn_most.f a0_0 a0_1 a0_2 false).bind fun t177 => ((impl_Turn_most.f a0_0 a0_1 a0_2 false).bind fun t178 => (if (wrap64 (t178 - a0_2)) < a0_1 then (some (t173, wrap64 (a0_1 - 1), t174)) else (some (t173, t177, t174)))))) = some (r1, r2, r3) := by rw [if_neg (show ¬ (false = true) by decide)] at H; exact H
  clear H
  have H := H1
  clear H1
  by_cases c34 : t176 = true
  · subst c34
    have H1 : (some (t173, t175, t174)) = some (r1, r2, r3) := by rw [if_pos rfl] at H; exact H
    clear H
    have H := H1
    clear H1
    simp only [Option.some.injEq, Prod.mk.injEq] at H
    obtain ⟨rfl, rfl, rfl⟩ := H
    go_enter Try.func96, Try.ntmps96
    go_wp2_with (first | ((with_reducible refine gate_dst (N := 3) rfl ?_); refine box_event ?hg (N := 3) ?hd (cs := #[.int .i64 a0_0, .int .i64 a0_1, .int .i64 a0_2, .bool false]) (t := 45) ?hr ?_; (case hd => rfl); (case hg => rfl); (case hr => first | (go_simp; done) | (go_simp; rfl)); intro gb172 hg w35 hbox hb; have n0_ := Aside0.mk (below_step (by repeat (first | (with_reducible first | exact HB.out | apply below_alloc | apply pw_below_drewN | apply below_drew1) | exact HB.out)) hb); have n1_ := Aside0.mk (hbox); have n2_ := Aside0.mk ((by rw [hg]; exact (below_size (by repeat (first | (with_reducible first | exact HB.out | apply below_alloc | apply pw_below_drewN | apply below_drew1) | exact HB.out))) : w.heap.size ≤ gb172)); have n3_ := Aside0.mk ((by rw [hg]; exact (below_size (by repeat (first | (with_reducible first | exact HB.out | apply below_alloc | apply pw_below_drewN | apply below_drew1) | exact HB.out))) : w.heap.size ≤ gb172)); clear HB; have HB := n0_; have BK172 := n1_; have GW172 := n2_; have GE172 := n3_; clear n0_ n1_ n2_ n3_; clear hb hbox hg; have hcz36_0 : w35.cell? ⟨gb172, 0, none⟩ = some (.int .i64 a0_0) := (blk_cell BK172.out 0).trans rfl; have hcz36_1 : w35.cell? ⟨gb172, 1, none⟩ = some (.int .i64 a0_1) := (blk_cell BK172.out 1).trans rfl; have hcz36_2 : w35.cell? ⟨gb172, 2, none⟩ = some (.int .i64 a0_2) := (blk_cell BK172.out 2).trans rfl; have hcz36_3 : w35.cell? ⟨gb172, 3, none⟩ = some (.bool false) := (blk_cell BK172.out 3).trans rfl; have hfz36_0 := blk_frozen BK172.out 0; have hfz36_1 := blk_frozen BK172.out 1; have hfz36_2 := blk_frozen BK172.out 2; have hfz36_3 := blk_frozen BK172.out 3) | ((with_reducible refine gate_callee (f := 82) rfl ?_); refine goesL_ (some 16) rfl rfl Try.func82 (by kernel_rfl) rfl #[.agg #[.int .i64 a0_0, .int .i64 a0_1, .int .i64 a0_2, .bool false], .int .i64 a1] rfl (by (try simp only [List.map_toArray, List.map_cons, List.map_nil]); first | done | rfl | (simp only [List.length_drop, List.length_take]; rfl)) ?_; (with_reducible refine (impl_Turn_line.calls a0_0 a0_1 a0_2 false a1 t173 t174 _ A4.out).mono ?_); rintro e w37 ⟨rfl, hb⟩; refine ⟨_, rfl, ?_⟩; have n0_ := Aside0.mk (blk_below (g := gb172) (o := .cells #[.int .i64 a0_0, .int .i64 a0_1, .int .i64 a0_2, .bool false] 45 (0, 0)) (by (with_reducible repeat (first | refine blk_drewN ?_ _ | refine blk_drew ?_ | refine blk_alloc ?_ _)); exact BK172.out) hb); have n1_ := Aside0.mk (below_step (by repeat (first | (with_reducible first | exact HB.out | apply below_alloc | apply pw_below_drewN | apply below_drew1 | refine below_set ?_ GE172.out) | exact HB.out)) hb); clear BK172; clear HB; have BK172 := n0_; have HB := n1_; clear n0_ n1_; (try clear hb); (try clear hb2); (try clear hk); (try clear hi); have hcz38_0 : w37.cell? ⟨gb172, 0, none⟩ = some (.int .i64 a0_0) := (blk_cell BK172.out 0).trans rfl; have hcz38_1 : w37.cell? ⟨gb172, 1, none⟩ = some (.int .i64 a0_1) := (blk_cell BK172.out 1).trans rfl; have hcz38_2 : w37.cell? ⟨gb172, 2, none⟩ = some (.int .i64 a0_2) := (blk_cell BK172.out 2).trans rfl; have hcz38_3 : w37.cell? ⟨gb172, 3, none⟩ = some (.bool false) := (blk_cell BK172.out 3).trans rfl; have hfz38_0 := blk_frozen BK172.out 0; have hfz38_1 := blk_frozen BK172.out 1; have hfz38_2 := blk_frozen BK172.out 2; have hfz38_3 := blk_frozen BK172.out 3) | ((with_reducible refine gate_callee (f := 82) rfl ?_); refine goesL_ (some 22) rfl rfl Try.func82 (by kernel_rfl) rfl #[.agg #[.int .i64 a0_0, .int .i64 a0_1, .int .i64 a0_2, .bool false], .int .i64 a2] rfl (by (try simp only [List.map_toArray, List.map_cons, List.map_nil]); first | done | rfl | (simp only [List.length_drop, List.length_take]; rfl)) ?_; (with_reducible refine (impl_Turn_line.calls a0_0 a0_1 a0_2 false a2 t175 true _ A5.out).mono ?_); rintro e w39 ⟨rfl, hb⟩; refine ⟨_, rfl, ?_⟩; have n0_ := Aside0.mk (blk_below (g := gb172) (o := .cells #[.int .i64 a0_0, .int .i64 a0_1, .int .i64 a0_2, .bool false] 45 (0, 0)) (by (with_reducible repeat (first | refine blk_drewN ?_ _ | refine blk_drew ?_ | refine blk_alloc ?_ _)); exact BK172.out) hb); have n1_ := Aside0.mk (below_step (by repeat (first | (with_reducible first | exact HB.out | apply below_alloc | apply pw_below_drewN | apply below_drew1 | refine below_set ?_ GE172.out) | exact HB.out)) hb); clear BK172; clear HB; have BK172 := n0_; have HB := n1_; clear n0_ n1_; (try clear hb); (try clear hb2); (try clear hk); (try clear hi); have hcz40_0 : w39.cell? ⟨gb172, 0, none⟩ = some (.int .i64 a0_0) := (blk_cell BK172.out 0).trans rfl; have hcz40_1 : w39.cell? ⟨gb172, 1, none⟩ = some (.int .i64 a0_1) := (blk_cell BK172.out 1).trans rfl; have hcz40_2 : w39.cell? ⟨gb172, 2, none⟩ = some (.int .i64 a0_2) := (blk_cell BK172.out 2).trans rfl; have hcz40_3 : w39.cell? ⟨gb172, 3, none⟩ = some (.bool false) := (blk_cell BK172.out 3).trans rfl; have hfz40_0 := blk_frozen BK172.out 0; have hfz40_1 := blk_frozen BK172.out 1; have hfz40_2 := blk_frozen BK172.out 2; have hfz40_3 := blk_frozen BK172.out 3))
    go_ret3
    exact ⟨by first | rfl | (simp [errW_none, errW_some] <;> rfl) | (simp [*, errW_none, errW_some] <;> rfl), by repeat (first | (with_reducible first | exact HB.out | apply below_alloc | apply pw_below_drewN | apply below_drew1 | refine below_set ?_ GE172.out) | exact HB.out)⟩
  · replace c34 := Bool.eq_false_iff.mpr c34
    subst c34
    have H1 : ((impl_Turn_most.f a0_0 a0_1 a0_2 false).bind fun t177 => ((impl_Turn_most.f a0_0 a0_1 a0_2 false).bind fun t178 => (if (wrap64 (t178 - a0_2)) < a0_1 then (some (t173, wrap64 (a0_1 - 1), t174)) else (some (t173, t177, t174))))) = some (r1, r2, r3) := by rw [if_neg (show ¬ (false = true) by decide)] at H; exact H
    clear H
    have H := H1
    clear H1
    replace H := Option.bind_eq_some_iff.mp H
    obtain ⟨t177, A410, H⟩ := H
    replace H : ((impl_Turn_most.f a0_0 a0_1 a0_2 false).bind fun t178 => (if (wrap64 (t178 - a0_2)) < a0_1 then (some (t173, wrap64 (a0_1 - 1), t174)) else (some (t173, t177, t174)))) = some (r1, r2, r3) := H
    have A41 := Aside0.mk A410
    clear A410
    replace H := Option.bind_eq_some_iff.mp H
    obtain ⟨t178, A420, H⟩ := H
    replace H : (if (wrap64 (t178 - a0_2)) < a0_1 then (some (t173, wrap64 (a0_1 - 1), t174)) else (some (t173, t177, t174))) = some (r1, r2, r3) := H
    have A42 := Aside0.mk A420
    clear A420
    by_cases c43 : (wrap64 (t178 - a0_2)) < a0_1
    · rw [if_pos c43] at H
      have c43b0 : decide ((wrap64 (t178 - a0_2)) < a0_1) = true := decide_eq_true c43
      clear c43
      simp only [Option.some.injEq, Prod.mk.injEq] at H
      obtain ⟨rfl, rfl, rfl⟩ := H
      go_enter Try.func96, Try.ntmps96
      try go_wp2_with (first | ((with_reducible refine gate_dst (N := 3) rfl ?_); refine box_event ?hg (N := 3) ?hd (cs := #[.int .i64 a0_0, .int .i64 a0_1, .int .i64 a0_2, .bool false]) (t := 45) ?hr ?_; (case hd => rfl); (case hg => rfl); (case hr => first | (go_simp; done) | (go_simp; rfl)); intro gb172 hg w44 hbox hb; have n0_ := Aside0.mk (below_step (by repeat (first | (with_reducible first | exact HB.out | apply below_alloc | apply pw_below_drewN | apply below_drew1) | exact HB.out)) hb); have n1_ := Aside0.mk (hbox); have n2_ := Aside0.mk ((by rw [hg]; exact (below_size (by repeat (first | (with_reducible first | exact HB.out | apply below_alloc | apply pw_below_drewN | apply below_drew1) | exact HB.out))) : w.heap.size ≤ gb172)); have n3_ := Aside0.mk ((by rw [hg]; exact (below_size (by repeat (first | (with_reducible first | exact HB.out | apply below_alloc | apply pw_below_drewN | apply below_drew1) | exact HB.out))) : w.heap.size ≤ gb172)); clear HB; have HB := n0_; have BK172 := n1_; have GW172 := n2_; have GE172 := n3_; clear n0_ n1_ n2_ n3_; clear hb hbox hg; have hcz45_0 : w44.cell? ⟨gb172, 0, none⟩ = some (.int .i64 a0_0) := (blk_cell BK172.out 0).trans rfl; have hcz45_1 : w44.cell? ⟨gb172, 1, none⟩ = some (.int .i64 a0_1) := (blk_cell BK172.out 1).trans rfl; have hcz45_2 : w44.cell? ⟨gb172, 2, none⟩ = some (.int .i64 a0_2) := (blk_cell BK172.out 2).trans rfl; have hcz45_3 : w44.cell? ⟨gb172, 3, none⟩ = some (.bool false) := (blk_cell BK172.out 3).trans rfl; have hfz45_0 := blk_frozen BK172.out 0; have hfz45_1 := blk_frozen BK172.out 1; have hfz45_2 := blk_frozen BK172.out 2; have hfz45_3 := blk_frozen BK172.out 3) | ((with_reducible refine gate_callee (f := 82) rfl ?_); refine goesL_ (some 16) rfl rfl Try.func82 (by kernel_rfl) rfl #[.agg #[.int .i64 a0_0, .int .i64 a0_1, .int .i64 a0_2, .bool false], .int .i64 a1] rfl (by (try simp only [List.map_toArray, List.map_cons, List.map_nil]); first | done | rfl | (simp only [List.length_drop, List.length_take]; rfl)) ?_; (with_reducible refine (impl_Turn_line.calls a0_0 a0_1 a0_2 false a1 t173 t174 _ A4.out).mono ?_); rintro e w46 ⟨rfl, hb⟩; refine ⟨_, rfl, ?_⟩; have n0_ := Aside0.mk (blk_below (g := gb172) (o := .cells #[.int .i64 a0_0, .int .i64 a0_1, .int .i64 a0_2, .bool false] 45 (0, 0)) (by (with_reducible repeat (first | refine blk_drewN ?_ _ | refine blk_drew ?_ | refine blk_alloc ?_ _)); exact BK172.out) hb); have n1_ := Aside0.mk (below_step (by repeat (first | (with_reducible first | exact HB.out | apply below_alloc | apply pw_below_drewN | apply below_drew1 | refine below_set ?_ GE172.out) | exact HB.out)) hb); clear BK172; clear HB; have BK172 := n0_; have HB := n1_; clear n0_ n1_; (try clear hb); (try clear hb2); (try clear hk); (try clear hi); have hcz47_0 : w46.cell? ⟨gb172, 0, none⟩ = some (.int .i64 a0_0) := (blk_cell BK172.out 0).trans rfl; have hcz47_1 : w46.cell? ⟨gb172, 1, none⟩ = some (.int .i64 a0_1) := (blk_cell BK172.out 1).trans rfl; have hcz47_2 : w46.cell? ⟨gb172, 2, none⟩ = some (.int .i64 a0_2) := (blk_cell BK172.out 2).trans rfl; have hcz47_3 : w46.cell? ⟨gb172, 3, none⟩ = some (.bool false) := (blk_cell BK172.out 3).trans rfl; have hfz47_0 := blk_frozen BK172.out 0; have hfz47_1 := blk_frozen BK172.out 1; have hfz47_2 := blk_frozen BK172.out 2; have hfz47_3 := blk_frozen BK172.out 3) | ((with_reducible refine gate_callee (f := 82) rfl ?_); refine goesL_ (some 22) rfl rfl Try.func82 (by kernel_rfl) rfl #[.agg #[.int .i64 a0_0, .int .i64 a0_1, .int .i64 a0_2, .bool false], .int .i64 a2] rfl (by (try simp only [List.map_toArray, List.map_cons, List.map_nil]); first | done | rfl | (simp only [List.length_drop, List.length_take]; rfl)) ?_; (with_reducible refine (impl_Turn_line.calls a0_0 a0_1 a0_2 false a2 t175 false _ A5.out).mono ?_); rintro e w48 ⟨rfl, hb⟩; refine ⟨_, rfl, ?_⟩; have n0_ := Aside0.mk (blk_below (g := gb172) (o := .cells #[.int .i64 a0_0, .int .i64 a0_1, .int .i64 a0_2, .bool false] 45 (0, 0)) (by (with_reducible repeat (first | refine blk_drewN ?_ _ | refine blk_drew ?_ | refine blk_alloc ?_ _)); exact BK172.out) hb); have n1_ := Aside0.mk (below_step (by repeat (first | (with_reducible first | exact HB.out | apply below_alloc | apply pw_below_drewN | apply below_drew1 | refine below_set ?_ GE172.out) | exact HB.out)) hb); clear BK172; clear HB; have BK172 := n0_; have HB := n1_; clear n0_ n1_; (try clear hb); (try clear hb2); (try clear hk); (try clear hi); have hcz49_0 : w48.cell? ⟨gb172, 0, none⟩ = some (.int .i64 a0_0) := (blk_cell BK172.out 0).trans rfl; have hcz49_1 : w48.cell? ⟨gb172, 1, none⟩ = some (.int .i64 a0_1) := (blk_cell BK172.out 1).trans rfl; have hcz49_2 : w48.cell? ⟨gb172, 2, none⟩ = some (.int .i64 a0_2) := (blk_cell BK172.out 2).trans rfl; have hcz49_3 : w48.cell? ⟨gb172, 3, none⟩ = some (.bool false) := (blk_cell BK172.out 3).trans rfl; have hfz49_0 := blk_frozen BK172.out 0; have hfz49_1 := blk_frozen BK172.out 1; have hfz49_2 := blk_frozen BK172.out 2; have hfz49_3 := blk_frozen BK172.out 3) | ((with_reducible refine gate_callee (f := 127) rfl ?_); refine goesL_ (some 44) rfl rfl Try.func127 (by kernel_rfl) rfl #[.agg #[.int .i64 a0_0, .int .i64 a0_1, .int .i64 a0_2, .bool false]] rfl (by (try simp only [List.map_toArray, List.map_cons, List.map_nil]); first | done | rfl | (simp only [List.length_drop, List.length_take]; rfl)) ?_; (with_reducible refine (impl_Turn_most.calls a0_0 a0_1 a0_2 false t177 _ A41.out).mono ?_); rintro e w50 ⟨rfl, hb⟩; refine ⟨_, rfl, ?_⟩; have n0_ := Aside0.mk (blk_below (g := gb172) (o := .cells #[.int .i64 a0_0, .int .i64 a0_1, .int .i64 a0_2, .bool false] 45 (0, 0)) (by (with_reducible repeat (first | refine blk_drewN ?_ _ | refine blk_drew ?_ | refine blk_alloc ?_ _)); exact BK172.out) hb); have n1_ := Aside0.mk (below_step (by repeat (first | (with_reducible first | exact HB.out | apply below_alloc | apply pw_below_drewN | apply below_drew1 | refine below_set ?_ GE172.out) | exact HB.out)) hb); clear BK172; clear HB; have BK172 := n0_; have HB := n1_; clear n0_ n1_; (try clear hb); (try clear hb2); (try clear hk); (try clear hi)))
      have n0_ := Aside0.mk (blk_drew BK172.out)
      have n1_ := Aside0.mk (below_drew1 HB.out)
      clear BK172
      clear HB
      have BK172 := n0_
      have HB := n1_
      clear n0_ n1_
      refine start_ (n := 8) (S := fun w' => w'.cell? ⟨gb172, 0, none⟩ = some (.int .i64 a0_0) ∧ w'.cell? ⟨gb172, 1, none⟩ = some (.int .i64 a0_1) ∧ w'.cell? ⟨gb172, 2, none⟩ = some (.int .i64 a0_2) ∧ w'.cell? ⟨gb172, 3, none⟩ = some (.bool false)) (ds := []) bt7_0 (by kernel_rfl) rfl rfl ⟨(blk_cell BK172.out 0).trans rfl, (blk_cell BK172.out 1).trans rfl, (blk_cell BK172.out 2).trans rfl, (blk_cell BK172.out 3).trans rfl⟩ (fun hHeld => ?_); refine with_tabW impl_Turn_ends.tab11 impl_Turn_ends.bits11 (fun HT_ HW_ => ?_)
      generalize w50.drew = w51 at BK172 HB hHeld ⊢
      refine pure_ (i := 2) (N := some 47) (v := ?_) (a' := ?_) bt7_1 rfl rfl (any_of HT_.out (by kernel_rfl)) (fun _ _ _ h => h) (Or.inl ⟨by rfl, ?_⟩) ?_ ?_
      rotate_left
      · intro w'
        go_simp
        with_reducible rfl
      rotate_left
      · simp only [Act.put, List.setIfInBounds_toArray, List.set_cons_zero, List.set_cons_succ, i64_w, i32_w]
        rfl
      refine pure_ (i := 5) (N := some 50) (v := ?_) (a' := ?_) bt7_2 rfl rfl (any_of HT_.out (by kernel_rfl)) (fun _ _ _ h => h) (Or.inl ⟨by rfl, ?_⟩) ?_ ?_
      rotate_left
      · intro w'
        go_simp
        with_reducible rfl
      rotate_left
      · simp only [Act.put, List.setIfInBounds_toArray, List.set_cons_zero, List.set_cons_succ, i64_w, i32_w]
        rfl
      refine take_ (i := 0) (N := some 45) (v := ?_) (a' := ?_) bt7_3 rfl rfl (take_ofW HT_.out HW_.out (by kernel_rfl)) (fun _ _ _ h => h) (Or.inl ⟨by rfl, ?_⟩) hHeld ?_ ?_
      rotate_left
      · rintro w' ⟨s0, s1, s2, s3⟩
        go_simp
        with_reducible rfl
      rotate_left
      · simp only [Act.put, List.setIfInBounds_toArray, List.set_cons_zero, List.set_cons_succ, i64_w, i32_w]
        rfl
      refine take_ (i := 3) (N := some 48) (v := ?_) (a' := ?_) bt7_4 rfl rfl (take_ofW HT_.out HW_.out (by kernel_rfl)) (fun _ _ _ h => h) (Or.inl ⟨by rfl, ?_⟩) hHeld ?_ ?_
      rotate_left
      · rintro w' ⟨s0, s1, s2, s3⟩
        go_simp
        with_reducible rfl
      rotate_left
      · simp only [Act.put, List.setIfInBounds_toArray, List.set_cons_zero, List.set_cons_succ, i64_w, i32_w]
        rfl
      refine take_ (i := 6) (N := some 51) (v := ?_) (a' := ?_) bt7_5 rfl rfl (take_ofW HT_.out HW_.out (by kernel_rfl)) (fun _ _ _ h => h) (Or.inl ⟨by rfl, ?_⟩) hHeld ?_ ?_
      rotate_left
      · rintro w' ⟨s0, s1, s2, s3⟩
        go_simp
        with_reducible rfl
      rotate_left
      · simp only [Act.put, List.setIfInBounds_toArray, List.set_cons_zero, List.set_cons_succ, i64_w, i32_w]
        rfl
      refine one_ (i := 1) (N := some 46) bt7_6 rfl rfl (one_of HT_.out (by kernel_rfl)) (by decide) (fun K hK => ?_)
      refine goes_ Try.func127 (by kernel_rfl) rfl #[.agg #[.int .i64 a0_0, .int .i64 a0_1, .int .i64 a0_2, .bool false]] (by rfl) rfl rfl (by (try simp only [List.map_toArray, List.map_cons, List.map_nil]); first | done | rfl | (simp only [List.length_drop, List.length_take]; rfl)) ?_
      with_reducible refine (impl_Turn_most.calls a0_0 a0_1 a0_2 false t178 _ A42.out).mono ?_
      rintro e w52 ⟨rfl, hb⟩
      refine ⟨_, rfl, ?_⟩
      have n0_ := Aside0.mk (blk_below (g := gb172) (o := .cells #[.int .i64 a0_0, .int .i64 a0_1, .int .i64 a0_2, .bool false] 45 (0, 0)) (by (with_reducible repeat (first | refine blk_drewN ?_ _ | refine blk_drew ?_ | refine blk_alloc ?_ _)); exact BK172.out) hb)
      have n1_ := Aside0.mk (below_step (by repeat (first | (with_reducible first | exact HB.out | apply below_alloc | apply pw_below_drewN | apply below_drew1 | refine below_set ?_ GE172.out) | exact HB.out)) hb)
      clear BK172
      clear HB
      have BK172 := n0_
      have HB := n1_
      clear n0_ n1_
      (try clear hb)
      (try clear hb2)
      (try clear hk)
      (try clear hi)
      refine hK.out _ _ ⟨(blk_cell BK172.out 0).trans rfl, (blk_cell BK172.out 1).trans rfl, (blk_cell BK172.out 2).trans rfl, (blk_cell BK172.out 3).trans rfl⟩ (fun hHeld => ?_)
      clear hK K
      refine norm_ (a' := ?_) ?_ ?_
      rotate_left
      · show Act.put _ (some 46) _ = _
        simp only [Act.put, List.setIfInBounds_toArray, List.set_cons_zero, List.set_cons_succ, i64_w, i32_w]
        rfl
      refine pure_ (i := 4) (N := some 49) (v := ?_) (a' := ?_) bt7_7 rfl rfl (any_of HT_.out (by kernel_rfl)) (fun _ _ _ h => h) (Or.inl ⟨by rfl, ?_⟩) ?_ ?_
      rotate_left
      · intro w'
        go_simp
        with_reducible rfl
      rotate_left
      · simp only [Act.put, List.setIfInBounds_toArray, List.set_cons_zero, List.set_cons_succ, i64_w, i32_w]
        rfl
      refine pure_ (i := 7) (N := some 52) (v := ?_) (a' := ?_) bt7_8 rfl rfl (any_of HT_.out (by kernel_rfl)) (fun _ _ _ h => h) (Or.inl ⟨by rfl, ?_⟩) ?_ ?_
      rotate_left
      · intro w'
        go_simp
        with_reducible rfl
      rotate_left
      · simp only [Act.put, List.setIfInBounds_toArray, List.set_cons_zero, List.set_cons_succ, i64_w, i32_w]
        rfl
      refine done_ (done_of HT_.out (by kernel_rfl)) ?_
      have hcz53_0 : w52.cell? ⟨gb172, 0, none⟩ = some (.int .i64 a0_0) := (blk_cell BK172.out 0).trans rfl
      have hcz53_1 : w52.cell? ⟨gb172, 1, none⟩ = some (.int .i64 a0_1) := (blk_cell BK172.out 1).trans rfl
      have hcz53_2 : w52.cell? ⟨gb172, 2, none⟩ = some (.int .i64 a0_2) := (blk_cell BK172.out 2).trans rfl
      have hcz53_3 : w52.cell? ⟨gb172, 3, none⟩ = some (.bool false) := (blk_cell BK172.out 3).trans rfl
      have hfz53_0 := blk_frozen BK172.out 0
      have hfz53_1 := blk_frozen BK172.out 1
      have hfz53_2 := blk_frozen BK172.out 2
      have hfz53_3 := blk_frozen BK172.out 3
      try go_wp2
      go_ret3
      exact ⟨by first | rfl | (simp [errW_none, errW_some] <;> rfl) | (simp [*, errW_none, errW_some] <;> rfl), by repeat (first | (with_reducible first | exact HB.out | apply below_alloc | apply pw_below_drewN | apply below_drew1 | refine below_set ?_ GE172.out) | exact HB.out)⟩
    · rw [if_neg c43] at H
      have c43b0 : decide ((wrap64 (t178 - a0_2)) < a0_1) = false := decide_eq_false c43
      clear c43
      simp only [Option.some.injEq, Prod.mk.injEq] at H
      obtain ⟨rfl, rfl, rfl⟩ := H
      go_enter Try.func96, Try.ntmps96
      try go_wp2_with (first | ((with_reducible refine gate_dst (N := 3) rfl ?_); refine box_event ?hg (N := 3) ?hd (cs := #[.int .i64 a0_0, .int .i64 a0_1, .int .i64 a0_2, .bool false]) (t := 45) ?hr ?_; (case hd => rfl); (case hg => rfl); (case hr => first | (go_simp; done) | (go_simp; rfl)); intro gb172 hg w54 hbox hb; have n0_ := Aside0.mk (below_step (by repeat (first | (with_reducible first | exact HB.out | apply below_alloc | apply pw_below_drewN | apply below_drew1) | exact HB.out)) hb); have n1_ := Aside0.mk (hbox); have n2_ := Aside0.mk ((by rw [hg]; exact (below_size (by repeat (first | (with_reducible first | exact HB.out | apply below_alloc | apply pw_below_drewN | apply below_drew1) | exact HB.out))) : w.heap.size ≤ gb172)); have n3_ := Aside0.mk ((by rw [hg]; exact (below_size (by repeat (first | (with_reducible first | exact HB.out | apply below_alloc | apply pw_below_drewN | apply below_drew1) | exact HB.out))) : w.heap.size ≤ gb172)); clear HB; have HB := n0_; have BK172 := n1_; have GW172 := n2_; have GE172 := n3_; clear n0_ n1_ n2_ n3_; clear hb hbox hg; have hcz55_0 : w54.cell? ⟨gb172, 0, none⟩ = some (.int .i64 a0_0) := (blk_cell BK172.out 0).trans rfl; have hcz55_1 : w54.cell? ⟨gb172, 1, none⟩ = some (.int .i64 a0_1) := (blk_cell BK172.out 1).trans rfl; have hcz55_2 : w54.cell? ⟨gb172, 2, none⟩ = some (.int .i64 a0_2) := (blk_cell BK172.out 2).trans rfl; have hcz55_3 : w54.cell? ⟨gb172, 3, none⟩ = some (.bool false) := (blk_cell BK172.out 3).trans rfl; have hfz55_0 := blk_frozen BK172.out 0; have hfz55_1 := blk_frozen BK172.out 1; have hfz55_2 := blk_frozen BK172.out 2; have hfz55_3 := blk_frozen BK172.out 3) | ((with_reducible refine gate_callee (f := 82) rfl ?_); refine goesL_ (some 16) rfl rfl Try.func82 (by kernel_rfl) rfl #[.agg #[.int .i64 a0_0, .int .i64 a0_1, .int .i64 a0_2, .bool false], .int .i64 a1] rfl (by (try simp only [List.map_toArray, List.map_cons, List.map_nil]); first | done | rfl | (simp only [List.length_drop, List.length_take]; rfl)) ?_; (with_reducible refine (impl_Turn_line.calls a0_0 a0_1 a0_2 false a1 t173 t174 _ A4.out).mono ?_); rintro e w56 ⟨rfl, hb⟩; refine ⟨_, rfl, ?_⟩; have n0_ := Aside0.mk (blk_below (g := gb172) (o := .cells #[.int .i64 a0_0, .int .i64 a0_1, .int .i64 a0_2, .bool false] 45 (0, 0)) (by (with_reducible repeat (first | refine blk_drewN ?_ _ | refine blk_drew ?_ | refine blk_alloc ?_ _)); exact BK172.out) hb); have n1_ := Aside0.mk (below_step (by repeat (first | (with_reducible first | exact HB.out | apply below_alloc | apply pw_below_drewN | apply below_drew1 | refine below_set ?_ GE172.out) | exact HB.out)) hb); clear BK172; clear HB; have BK172 := n0_; have HB := n1_; clear n0_ n1_; (try clear hb); (try clear hb2); (try clear hk); (try clear hi); have hcz57_0 : w56.cell? ⟨gb172, 0, none⟩ = some (.int .i64 a0_0) := (blk_cell BK172.out 0).trans rfl; have hcz57_1 : w56.cell? ⟨gb172, 1, none⟩ = some (.int .i64 a0_1) := (blk_cell BK172.out 1).trans rfl; have hcz57_2 : w56.cell? ⟨gb172, 2, none⟩ = some (.int .i64 a0_2) := (blk_cell BK172.out 2).trans rfl; have hcz57_3 : w56.cell? ⟨gb172, 3, none⟩ = some (.bool false) := (blk_cell BK172.out 3).trans rfl; have hfz57_0 := blk_frozen BK172.out 0; have hfz57_1 := blk_frozen BK172.out 1; have hfz57_2 := blk_frozen BK172.out 2; have hfz57_3 := blk_frozen BK172.out 3) | ((with_reducible refine gate_callee (f := 82) rfl ?_); refine goesL_ (some 22) rfl rfl Try.func82 (by kernel_rfl) rfl #[.agg #[.int .i64 a0_0, .int .i64 a0_1, .int .i64 a0_2, .bool false], .int .i64 a2] rfl (by (try simp only [List.map_toArray, List.map_cons, List.map_nil]); first | done | rfl | (simp only [List.length_drop, List.length_take]; rfl)) ?_; (with_reducible refine (impl_Turn_line.calls a0_0 a0_1 a0_2 false a2 t175 false _ A5.out).mono ?_); rintro e w58 ⟨rfl, hb⟩; refine ⟨_, rfl, ?_⟩; have n0_ := Aside0.mk (blk_below (g := gb172) (o := .cells #[.int .i64 a0_0, .int .i64 a0_1, .int .i64 a0_2, .bool false] 45 (0, 0)) (by (with_reducible repeat (first | refine blk_drewN ?_ _ | refine blk_drew ?_ | refine blk_alloc ?_ _)); exact BK172.out) hb); have n1_ := Aside0.mk (below_step (by repeat (first | (with_reducible first | exact HB.out | apply below_alloc | apply pw_below_drewN | apply below_drew1 | refine below_set ?_ GE172.out) | exact HB.out)) hb); clear BK172; clear HB; have BK172 := n0_; have HB := n1_; clear n0_ n1_; (try clear hb); (try clear hb2); (try clear hk); (try clear hi); have hcz59_0 : w58.cell? ⟨gb172, 0, none⟩ = some (.int .i64 a0_0) := (blk_cell BK172.out 0).trans rfl; have hcz59_1 : w58.cell? ⟨gb172, 1, none⟩ = some (.int .i64 a0_1) := (blk_cell BK172.out 1).trans rfl; have hcz59_2 : w58.cell? ⟨gb172, 2, none⟩ = some (.int .i64 a0_2) := (blk_cell BK172.out 2).trans rfl; have hcz59_3 : w58.cell? ⟨gb172, 3, none⟩ = some (.bool false) := (blk_cell BK172.out 3).trans rfl; have hfz59_0 := blk_frozen BK172.out 0; have hfz59_1 := blk_frozen BK172.out 1; have hfz59_2 := blk_frozen BK172.out 2; have hfz59_3 := blk_frozen BK172.out 3) | ((with_reducible refine gate_callee (f := 127) rfl ?_); refine goesL_ (some 44) rfl rfl Try.func127 (by kernel_rfl) rfl #[.agg #[.int .i64 a0_0, .int .i64 a0_1, .int .i64 a0_2, .bool false]] rfl (by (try simp only [List.map_toArray, List.map_cons, List.map_nil]); first | done | rfl | (simp only [List.length_drop, List.length_take]; rfl)) ?_; (with_reducible refine (impl_Turn_most.calls a0_0 a0_1 a0_2 false t177 _ A41.out).mono ?_); rintro e w60 ⟨rfl, hb⟩; refine ⟨_, rfl, ?_⟩; have n0_ := Aside0.mk (blk_below (g := gb172) (o := .cells #[.int .i64 a0_0, .int .i64 a0_1, .int .i64 a0_2, .bool false] 45 (0, 0)) (by (with_reducible repeat (first | refine blk_drewN ?_ _ | refine blk_drew ?_ | refine blk_alloc ?_ _)); exact BK172.out) hb); have n1_ := Aside0.mk (below_step (by repeat (first | (with_reducible first | exact HB.out | apply below_alloc | apply pw_below_drewN | apply below_drew1 | refine below_set ?_ GE172.out) | exact HB.out)) hb); clear BK172; clear HB; have BK172 := n0_; have HB := n1_; clear n0_ n1_; (try clear hb); (try clear hb2); (try clear hk); (try clear hi)))
      have n0_ := Aside0.mk (blk_drew BK172.out)
      have n1_ := Aside0.mk (below_drew1 HB.out)
      clear BK172
      clear HB
      have BK172 := n0_
      have HB := n1_
      clear n0_ n1_
      refine start_ (n := 8) (S := fun w' => w'.cell? ⟨gb172, 0, none⟩ = some (.int .i64 a0_0) ∧ w'.cell? ⟨gb172, 1, none⟩ = some (.int .i64 a0_1) ∧ w'.cell? ⟨gb172, 2, none⟩ = some (.int .i64 a0_2) ∧ w'.cell? ⟨gb172, 3, none⟩ = some (.bool false)) (ds := []) bt7_0 (by kernel_rfl) rfl rfl ⟨(blk_cell BK172.out 0).trans rfl, (blk_cell BK172.out 1).trans rfl, (blk_cell BK172.out 2).trans rfl, (blk_cell BK172.out 3).trans rfl⟩ (fun hHeld => ?_); refine with_tabW impl_Turn_ends.tab11 impl_Turn_ends.bits11 (fun HT_ HW_ => ?_)
      generalize w60.drew = w61 at BK172 HB hHeld ⊢
      refine pure_ (i := 2) (N := some 47) (v := ?_) (a' := ?_) bt7_1 rfl rfl (any_of HT_.out (by kernel_rfl)) (fun _ _ _ h => h) (Or.inl ⟨by rfl, ?_⟩) ?_ ?_
      rotate_left
      · intro w'
        go_simp
        with_reducible rfl
      rotate_left
      · simp only [Act.put, List.setIfInBounds_toArray, List.set_cons_zero, List.set_cons_succ, i64_w, i32_w]
        rfl
      refine pure_ (i := 5) (N := some 50) (v := ?_) (a' := ?_) bt7_2 rfl rfl (any_of HT_.out (by kernel_rfl)) (fun _ _ _ h => h) (Or.inl ⟨by rfl, ?_⟩) ?_ ?_
      rotate_left
      · intro w'
        go_simp
        with_reducible rfl
      rotate_left
      · simp only [Act.put, List.setIfInBounds_toArray, List.set_cons_zero, List.set_cons_succ, i64_w, i32_w]
        rfl
      refine take_ (i := 0) (N := some 45) (v := ?_) (a' := ?_) bt7_3 rfl rfl (take_ofW HT_.out HW_.out (by kernel_rfl)) (fun _ _ _ h => h) (Or.inl ⟨by rfl, ?_⟩) hHeld ?_ ?_
      rotate_left
      · rintro w' ⟨s0, s1, s2, s3⟩
        go_simp
        with_reducible rfl
      rotate_left
      · simp only [Act.put, List.setIfInBounds_toArray, List.set_cons_zero, List.set_cons_succ, i64_w, i32_w]
        rfl
      refine take_ (i := 3) (N := some 48) (v := ?_) (a' := ?_) bt7_4 rfl rfl (take_ofW HT_.out HW_.out (by kernel_rfl)) (fun _ _ _ h => h) (Or.inl ⟨by rfl, ?_⟩) hHeld ?_ ?_
      rotate_left
      · rintro w' ⟨s0, s1, s2, s3⟩
        go_simp
        with_reducible rfl
      rotate_left
      · simp only [Act.put, List.setIfInBounds_toArray, List.set_cons_zero, List.set_cons_succ, i64_w, i32_w]
        rfl
      refine take_ (i := 6) (N := some 51) (v := ?_) (a' := ?_) bt7_5 rfl rfl (take_ofW HT_.out HW_.out (by kernel_rfl)) (fun _ _ _ h => h) (Or.inl ⟨by rfl, ?_⟩) hHeld ?_ ?_
      rotate_left
      · rintro w' ⟨s0, s1, s2, s3⟩
        go_simp
        with_reducible rfl
      rotate_left
      · simp only [Act.put, List.setIfInBounds_toArray, List.set_cons_zero, List.set_cons_succ, i64_w, i32_w]
        rfl
      refine one_ (i := 1) (N := some 46) bt7_6 rfl rfl (one_of HT_.out (by kernel_rfl)) (by decide) (fun K hK => ?_)
      refine goes_ Try.func127 (by kernel_rfl) rfl #[.agg #[.int .i64 a0_0, .int .i64 a0_1, .int .i64 a0_2, .bool false]] (by rfl) rfl rfl (by (try simp only [List.map_toArray, List.map_cons, List.map_nil]); first | done | rfl | (simp only [List.length_drop, List.length_take]; rfl)) ?_
      with_reducible refine (impl_Turn_most.calls a0_0 a0_1 a0_2 false t178 _ A42.out).mono ?_
      rintro e w62 ⟨rfl, hb⟩
      refine ⟨_, rfl, ?_⟩
      have n0_ := Aside0.mk (blk_below (g := gb172) (o := .cells #[.int .i64 a0_0, .int .i64 a0_1, .int .i64 a0_2, .bool false] 45 (0, 0)) (by (with_reducible repeat (first | refine blk_drewN ?_ _ | refine blk_drew ?_ | refine blk_alloc ?_ _)); exact BK172.out) hb)
      have n1_ := Aside0.mk (below_step (by repeat (first | (with_reducible first | exact HB.out | apply below_alloc | apply pw_below_drewN | apply below_drew1 | refine below_set ?_ GE172.out) | exact HB.out)) hb)
      clear BK172
      clear HB
      have BK172 := n0_
      have HB := n1_
      clear n0_ n1_
      (try clear hb)
      (try clear hb2)
      (try clear hk)
      (try clear hi)
      refine hK.out _ _ ⟨(blk_cell BK172.out 0).trans rfl, (blk_cell BK172.out 1).trans rfl, (blk_cell BK172.out 2).trans rfl, (blk_cell BK172.out 3).trans rfl⟩ (fun hHeld => ?_)
      clear hK K
      refine norm_ (a' := ?_) ?_ ?_
      rotate_left
      · show Act.put _ (some 46) _ = _
        simp only [Act.put, List.setIfInBounds_toArray, List.set_cons_zero, List.set_cons_succ, i64_w, i32_w]
        rfl
      refine pure_ (i := 4) (N := some 49) (v := ?_) (a' := ?_) bt7_7 rfl rfl (any_of HT_.out (by kernel_rfl)) (fun _ _ _ h => h) (Or.inl ⟨by rfl, ?_⟩) ?_ ?_
      rotate_left
      · intro w'
        go_simp
        with_reducible rfl
      rotate_left
      · simp only [Act.put, List.setIfInBounds_toArray, List.set_cons_zero, List.set_cons_succ, i64_w, i32_w]
        rfl
      refine pure_ (i := 7) (N := some 52) (v := ?_) (a' := ?_) bt7_8 rfl rfl (any_of HT_.out (by kernel_rfl)) (fun _ _ _ h => h) (Or.inl ⟨by rfl, ?_⟩) ?_ ?_
      rotate_left
      · intro w'
        go_simp
        with_reducible rfl
      rotate_left
      · simp only [Act.put, List.setIfInBounds_toArray, List.set_cons_zero, List.set_cons_succ, i64_w, i32_w]
        rfl
      refine done_ (done_of HT_.out (by kernel_rfl)) ?_
      try go_wp2
      go_ret3
      exact ⟨by first | rfl | (simp [errW_none, errW_some] <;> rfl) | (simp [*, errW_none, errW_some] <;> rfl), by repeat (first | (with_reducible first | exact HB.out | apply below_alloc | apply pw_below_drewN | apply below_drew1 | refine below_set ?_ GE172.out) | exact HB.out)⟩

set_option maxHeartbeats 8000000 in
set_option maxRecDepth 100000 in
theorem impl_Turn_ends.calls (a0_0 : Int) (a0_1 : Int) (a0_2 : Int) (a0_3 : Bool) (a1 : Int) (a2 : Int) (r1 : Int) (r2 : Int) (r3 : Bool) (w : World) (h : impl_Turn_ends.f a0_0 a0_1 a0_2 a0_3 a1 a2 = some (r1, r2, r3)) :
    Calls Try.prog 96 #[.agg #[.int .i64 a0_0, .int .i64 a0_1, .int .i64 a0_2, .bool a0_3], .int .i64 a1, .int .i64 a2] w fun e w' => e = .returned (.tuple #[.int .i64 r1, .int .i64 r2, .bool r3]) ∧ Below w.heap.size w w' := by
  have H : ((impl_Turn_line.f a0_0 a0_1 a0_2 a0_3 a1).bind fun bt173 => ((impl_Turn_line.f a0_0 a0_1 a0_2 a0_3 a2).bind fun bt175 => (if a0_3 = true then (if bt173.2 = true then (if bt175.2 = true then (some (bt173.1, bt175.1, decide (bt173.1 ≤ bt175.1))) else (some (bt173.1, wrap64 (a0_1 - 1), decide (bt173.1 ≤ (wrap64 (a0_1 - 1)))))) else (if bt175.2 = true then (some (a0_1, bt175.1, decide (a0_1 ≤ bt175.1))) else (some (a0_1, wrap64 (a0_1 - 1), decide (a0_1 ≤ (wrap64 (a0_1 - 1))))))) else (if bt175.2 = true then (some (bt173.1, bt175.1, bt173.2)) else ((impl_Turn_most.f a0_0 a0_1 a0_2 a0_3).bind fun t177 => ((impl_Turn_most.f a0_0 a0_1 a0_2 a0_3).bind fun t178 => (if (wrap64 (t178 - a0_2)) < a0_1 then (some (bt173.1, wrap64 (a0_1 - 1), bt173.2)) else (some (bt173.1, t177, bt173.2))))))))) = some (r1, r2, r3) := h
  replace H := Option.bind_eq_some_iff.mp H
  obtain ⟨⟨t173, t174⟩, A40, H⟩ := H
  replace H : ((impl_Turn_line.f a0_0 a0_1 a0_2 a0_3 a2).bind fun bt175 => (if a0_3 = true then (if t174 = true then (if bt175.2 = true then (some (t173, bt175.1, decide (t173 ≤ bt175.1))) else (some (t173, wrap64 (a0_1 - 1), decide (t173 ≤ (wrap64 (a0_1 - 1)))))) else (if bt175.2 = true then (some (a0_1, bt175.1, decide (a0_1 ≤ bt175.1))) else (some (a0_1, wrap64 (a0_1 - 1), decide (a0_1 ≤ (wrap64 (a0_1 - 1))))))) else (if bt175.2 = true then (some (t173, bt175.1, t174)) else ((impl_Turn_most.f a0_0 a0_1 a0_2 a0_3).bind fun t177 => ((impl_Turn_most.f a0_0 a0_1 a0_2 a0_3).bind fun t178 => (if (wrap64 (t178 - a0_2)) < a0_1 then (some (t173, wrap64 (a0_1 - 1), t174)) else (some (t173, t177, t174)))))))) = some (r1, r2, r3) := H
  have A4 := Aside0.mk A40
  clear A40
  replace H := Option.bind_eq_some_iff.mp H
  obtain ⟨⟨t175, t176⟩, A50, H⟩ := H
  replace H : (if a0_3 = true then (if t174 = true then (if t176 = true then (some (t173, t175, decide (t173 ≤ t175))) else (some (t173, wrap64 (a0_1 - 1), decide (t173 ≤ (wrap64 (a0_1 - 1)))))) else (if t176 = true then (some (a0_1, t175, decide (a0_1 ≤ t175))) else (some (a0_1, wrap64 (a0_1 - 1), decide (a0_1 ≤ (wrap64 (a0_1 - 1))))))) else (if t176 = true then (some (t173, t175, t174)) else ((impl_Turn_most.f a0_0 a0_1 a0_2 a0_3).bind fun t177 => ((impl_Turn_most.f a0_0 a0_1 a0_2 a0_3).bind fun t178 => (if (wrap64 (t178 - a0_2)) < a0_1 then (some (t173, wrap64 (a0_1 - 1), t174)) else (some (t173, t177, t174))))))) = some (r1, r2, r3) := H
  have A5 := Aside0.mk A50
  clear A50
  by_cases c6 : a0_3 = true
  · exact impl_Turn_ends.calls_p1 a0_0 a0_1 a0_2 a0_3 a1 a2 r1 r2 r3 w t173 t174 t175 t176 A4 A5 c6 H
  · exact impl_Turn_ends.calls_p2 a0_0 a0_1 a0_2 a0_3 a1 a2 r1 r2 r3 w t173 t174 t175 t176 A4 A5 c6 H

/-! ### impl_TurnArea: function 44 -/

def impl_TurnArea.j0 : Nat → Bool → Int → Int → Int → Bool → Int → Int → Bool → Bool → Int → Int → Bool → Bool → Option (Int × Int × Bool × Bool × Int × Int × Bool × Bool × Bool)
  | 0, _, _, _, _, _, _, _, _, _, _, _, _, _ => none
  | k + 1, x21, x180000, x180001, x180002, x180003, x181000, x181001, x181002, x181003, x181004, x181005, x181006, x181007 => if x21 = true then (some (0, 0, false, false, 0, 0, false, false, false)) else ((impl_Area_block.f x181000 x181001 x181002 x181003 x181004 x181005 x181006 x181007).bind fun bt184 => (if x180000 = 1 then ((impl_Turn_ends.f x180000 x180001 x180002 x180003 bt184.1 bt184.2.2.1).bind fun bt190 => (if bt190.2.2 = true then (if x181000 > x181004 then (some (bt190.2.1, x181001, x181002, x181003, bt190.1, x181005, x181006, x181007, true)) else (some (bt190.1, x181001, x181002, x181003, bt190.2.1, x181005, x181006, x181007, true))) else (some (0, 0, false, false, 0, 0, false, false, false)))) else ((impl_Turn_ends.f x180000 x180001 x180002 x180003 bt184.2.1 bt184.2.2.2).bind fun bt193 => (if bt193.2.2 = true then (if x181001 > x181005 then (some (x181000, bt193.2.1, x181002, x181003, x181004, bt193.1, x181006, x181007, true)) else (some (x181000, bt193.1, x181002, x181003, x181004, bt193.2.1, x181006, x181007, true))) else (some (0, 0, false, false, 0, 0, false, false, false))))))

def impl_TurnArea.f (k : Nat) (a0_0 : Int) (a0_1 : Int) (a0_2 : Int) (a0_3 : Bool) (a1_0 : Int) (a1_1 : Int) (a1_2 : Bool) (a1_3 : Bool) (a1_4 : Int) (a1_5 : Int) (a1_6 : Bool) (a1_7 : Bool) : Option (Int × Int × Bool × Bool × Int × Int × Bool × Bool × Bool) := (impl_GoodTurn.f a0_0 a0_1 a0_2 a0_3).bind fun t182 => (if t182 = true then ((impl_GoodArea.f a1_0 a1_1 a1_2 a1_3 a1_4 a1_5 a1_6 a1_7).bind fun t183 => (impl_TurnArea.j0 k (!t183) a0_0 a0_1 a0_2 a0_3 a1_0 a1_1 a1_2 a1_3 a1_4 a1_5 a1_6 a1_7)) else (impl_TurnArea.j0 k true a0_0 a0_1 a0_2 a0_3 a1_0 a1_1 a1_2 a1_3 a1_4 a1_5 a1_6 a1_7))

theorem impl_TurnArea.mono_l : ∀ k, (∀ y0 y1 y2 y3 y4 y5 y6 y7 y8 y9 y10 y11 y12, LeO (impl_TurnArea.j0 k y0 y1 y2 y3 y4 y5 y6 y7 y8 y9 y10 y11 y12) (impl_TurnArea.j0 (k + 1) y0 y1 y2 y3 y4 y5 y6 y7 y8 y9 y10 y11 y12))
  | 0 => fun _ _ _ _ _ _ _ _ _ _ _ _ _ r h => by simp [impl_TurnArea.j0] at h
  | k + 1 => by
    have ih0 := impl_TurnArea.mono_l k
    · intro y0 y1 y2 y3 y4 y5 y6 y7 y8 y9 y10 y11 y12
      unfold impl_TurnArea.j0
      repeat' first
      | (with_reducible exact ih0 _ _ _ _ _ _ _ _ _ _ _ _ _)
      | (with_reducible exact LeO.refl _)
      | (with_reducible exact LeO.none _)
      | (with_reducible refine LeO.ite ?_ ?_)
      | (with_reducible refine LeO.bind ?_ (fun _ => ?_))
      | exact ih0 _ _ _ _ _ _ _ _ _ _ _ _ _
      | exact LeO.none _
      | refine LeO.ite ?_ ?_
      | refine LeO.bind ?_ (fun _ => ?_)

theorem impl_TurnArea.mono : ∀ a0 a1 a2 a3 a4 a5 a6 a7 a8 a9 a10 a11 k, LeO (impl_TurnArea.f k a0 a1 a2 a3 a4 a5 a6 a7 a8 a9 a10 a11) (impl_TurnArea.f (k + 1) a0 a1 a2 a3 a4 a5 a6 a7 a8 a9 a10 a11) := by
  intro a0 a1 a2 a3 a4 a5 a6 a7 a8 a9 a10 a11 k
  have ih0 := impl_TurnArea.mono_l k
  unfold impl_TurnArea.f
  repeat' first
      | (with_reducible exact ih0 _ _ _ _ _ _ _ _ _ _ _ _ _)
      | (with_reducible exact LeO.refl _)
      | (with_reducible exact LeO.none _)
      | (with_reducible refine LeO.ite ?_ ?_)
      | (with_reducible refine LeO.bind ?_ (fun _ => ?_))
      | exact ih0 _ _ _ _ _ _ _ _ _ _ _ _ _
      | exact LeO.none _
      | refine LeO.ite ?_ ?_
      | refine LeO.bind ?_ (fun _ => ?_)

set_option maxHeartbeats 8000000 in
set_option maxRecDepth 100000 in
theorem impl_TurnArea.calls (k : Nat) (a0_0 : Int) (a0_1 : Int) (a0_2 : Int) (a0_3 : Bool) (a1_0 : Int) (a1_1 : Int) (a1_2 : Bool) (a1_3 : Bool) (a1_4 : Int) (a1_5 : Int) (a1_6 : Bool) (a1_7 : Bool) (r1 : Int) (r2 : Int) (r3 : Bool) (r4 : Bool) (r5 : Int) (r6 : Int) (r7 : Bool) (r8 : Bool) (r9 : Bool) (w : World) (h : impl_TurnArea.f k a0_0 a0_1 a0_2 a0_3 a1_0 a1_1 a1_2 a1_3 a1_4 a1_5 a1_6 a1_7 = some (r1, r2, r3, r4, r5, r6, r7, r8, r9)) :
    Calls Try.prog 44 #[.agg #[.int .i64 a0_0, .int .i64 a0_1, .int .i64 a0_2, .bool a0_3], .agg #[.int .i64 a1_0, .int .i64 a1_1, .bool a1_2, .bool a1_3, .int .i64 a1_4, .int .i64 a1_5, .bool a1_6, .bool a1_7]] w fun e w' => e = .returned (.tuple #[.agg #[.int .i64 r1, .int .i64 r2, .bool r3, .bool r4, .int .i64 r5, .int .i64 r6, .bool r7, .bool r8], .bool r9]) ∧ Below w.heap.size w w' := by
  have hb0 : Below w.heap.size w (((w.alloc (.cells #[.int .i64 a0_0, .int .i64 a0_1, .int .i64 a0_2, .bool a0_3] 45)).alloc (.cells #[.int .i64 a1_0, .int .i64 a1_1, .bool a1_2, .bool a1_3, .int .i64 a1_4, .int .i64 a1_5, .bool a1_6, .bool a1_7] 28)).alloc (.cells #[.int .i64 0, .int .i64 0, .bool false, .bool false, .int .i64 0, .int .i64 0, .bool false, .bool false] 28)) := below_alloc (below_alloc (below_alloc (Below.refl _ _) _) _) _
  have hk0 := blk_alloc (blk_alloc (blk_new w (.cells #[.int .i64 a0_0, .int .i64 a0_1, .int .i64 a0_2, .bool a0_3] 45)) (.cells #[.int .i64 a1_0, .int .i64 a1_1, .bool a1_2, .bool a1_3, .int .i64 a1_4, .int .i64 a1_5, .bool a1_6, .bool a1_7] 28)) (.cells #[.int .i64 0, .int .i64 0, .bool false, .bool false, .int .i64 0, .int .i64 0, .bool false, .bool false] 28)
  have hk1 := blk_alloc (blk_new (w.alloc (.cells #[.int .i64 a0_0, .int .i64 a0_1, .int .i64 a0_2, .bool a0_3] 45)) (.cells #[.int .i64 a1_0, .int .i64 a1_1, .bool a1_2, .bool a1_3, .int .i64 a1_4, .int .i64 a1_5, .bool a1_6, .bool a1_7] 28)) (.cells #[.int .i64 0, .int .i64 0, .bool false, .bool false, .int .i64 0, .int .i64 0, .bool false, .bool false] 28)
  have hk2 := blk_new ((w.alloc (.cells #[.int .i64 a0_0, .int .i64 a0_1, .int .i64 a0_2, .bool a0_3] 45)).alloc (.cells #[.int .i64 a1_0, .int .i64 a1_1, .bool a1_2, .bool a1_3, .int .i64 a1_4, .int .i64 a1_5, .bool a1_6, .bool a1_7] 28)) (.cells #[.int .i64 0, .int .i64 0, .bool false, .bool false, .int .i64 0, .int .i64 0, .bool false, .bool false] 28)
  simp only [World.size_alloc, Nat.add_assoc, Nat.reduceAdd] at hk1 hk2
  have HW := Lib.hid hb0; have HK0 := Lib.hid hk0; have HK1 := Lib.hid hk1; have HK2 := Lib.hid hk2; clear hb0 hk0 hk1 hk2
  unfold impl_TurnArea.f at h
  replace h := Option.bind_eq_some_iff.mp h
  obtain ⟨g, hg, h⟩ := h
  have HG := Lib.hid hg; clear hg
  cases g
  · cases k with
    | zero => simp [impl_TurnArea.j0] at h
    | succ k =>
      obtain ⟨rfl, rfl, rfl, rfl, rfl, rfl, rfl, rfl, rfl⟩ : 0 = r1 ∧ 0 = r2 ∧ false = r3 ∧ false = r4 ∧ 0 = r5 ∧ 0 = r6 ∧ false = r7 ∧ false = r8 ∧ false = r9 := by simpa [impl_TurnArea.j0] using h
      clear h
      go_enter Try.func44, Try.ntmps44
      go_wp2_with fail
      refine (impl_GoodTurn.calls _ _ _ _ _ _ HG.out).mono ?_; rintro e w1 ⟨rfl, hd⟩
      have HK0n := Lib.hid (blk_below HK0.out hd); clear HK0; have HK0 := HK0n; clear HK0n
      have HK1n := Lib.hid (blk_below HK1.out hd); clear HK1; have HK1 := HK1n; clear HK1n
      have HK2n := Lib.hid (blk_below HK2.out hd); clear HK2; have HK2 := HK2n; clear HK2n
      have HWn := Lib.hid (below_step HW.out hd); clear HW; have HW := HWn; clear HWn; clear hd
      have q0 := blk_cell HK2.out 0; have q1 := blk_cell HK2.out 1; have q2 := blk_cell HK2.out 2; have q3 := blk_cell HK2.out 3; have q4 := blk_cell HK2.out 4; have q5 := blk_cell HK2.out 5; have q6 := blk_cell HK2.out 6; have q7 := blk_cell HK2.out 7
      simp only [List.getElem?_toArray, List.getElem?_cons_zero, List.getElem?_cons_succ] at q0 q1 q2 q3 q4 q5 q6 q7
      have fq0 := blk_frozen HK2.out 0; have fq1 := blk_frozen HK2.out 1; have fq2 := blk_frozen HK2.out 2; have fq3 := blk_frozen HK2.out 3; have fq4 := blk_frozen HK2.out 4; have fq5 := blk_frozen HK2.out 5; have fq6 := blk_frozen HK2.out 6; have fq7 := blk_frozen HK2.out 7
      go_wp2_with fail
      (try simp only [Exit.inBlock, Exit.then]); refine bodyPost_ret (results_ct rfl _ _ (w.heap.size + 2) 28 _ (0, 0) _ rfl (put8 (c0 := .int .i64 0) (c1 := .int .i64 0) (c2 := .bool false) (c3 := .bool false) (c4 := .int .i64 0) (c5 := .int .i64 0) (c6 := .bool false) (c7 := .bool false) ?hx) Try.underlying28 rfl (by kernel_rfl)) rfl ?_
      case hx => exact (by (with_reducible repeat (first | exact HK2.out | refine blk_far ?_ (Nat.ne_of_lt (by assumption)) _)))
      exact ⟨rfl, (by (with_reducible repeat (first | exact HW.out | refine Below.setCell ?_ (by first | exact Nat.le_refl _ | exact Nat.le_add_right _ _ | exact Nat.le_trans (Nat.le_succ _) (Nat.le_succ _) | exact Nat.le_of_lt (by assumption)) _)))⟩
  rw [if_pos rfl] at h
  replace h := Option.bind_eq_some_iff.mp h
  obtain ⟨g2, hg2, h⟩ := h
  have HG2 := Lib.hid hg2; clear hg2
  cases k with
  | zero => cases g2 <;> simp [impl_TurnArea.j0] at h
  | succ k =>
    cases g2
    · obtain ⟨rfl, rfl, rfl, rfl, rfl, rfl, rfl, rfl, rfl⟩ : 0 = r1 ∧ 0 = r2 ∧ false = r3 ∧ false = r4 ∧ 0 = r5 ∧ 0 = r6 ∧ false = r7 ∧ false = r8 ∧ false = r9 := by simpa [impl_TurnArea.j0] using h
      clear h
      go_enter Try.func44, Try.ntmps44
      go_wp2_with fail
      refine (impl_GoodTurn.calls _ _ _ _ _ _ HG.out).mono ?_; rintro e w1 ⟨rfl, hd⟩
      have HK0n := Lib.hid (blk_below HK0.out hd); clear HK0; have HK0 := HK0n; clear HK0n
      have HK1n := Lib.hid (blk_below HK1.out hd); clear HK1; have HK1 := HK1n; clear HK1n
      have HK2n := Lib.hid (blk_below HK2.out hd); clear HK2; have HK2 := HK2n; clear HK2n
      have HWn := Lib.hid (below_step HW.out hd); clear HW; have HW := HWn; clear HWn; clear hd
      have y0 := blk_cell HK1.out 0; have y1 := blk_cell HK1.out 1; have y2 := blk_cell HK1.out 2; have y3 := blk_cell HK1.out 3; have y4 := blk_cell HK1.out 4; have y5 := blk_cell HK1.out 5; have y6 := blk_cell HK1.out 6; have y7 := blk_cell HK1.out 7
      simp only [List.getElem?_toArray, List.getElem?_cons_zero, List.getElem?_cons_succ] at y0 y1 y2 y3 y4 y5 y6 y7
      go_wp2_with fail
      refine (impl_GoodArea.calls _ _ _ _ _ _ _ _ _ _ HG2.out).mono ?_; rintro e w2 ⟨rfl, hd⟩
      clear y0 y1 y2 y3 y4 y5 y6 y7
      have HK0n := Lib.hid (blk_below HK0.out hd); clear HK0; have HK0 := HK0n; clear HK0n
      have HK1n := Lib.hid (blk_below HK1.out hd); clear HK1; have HK1 := HK1n; clear HK1n
      have HK2n := Lib.hid (blk_below HK2.out hd); clear HK2; have HK2 := HK2n; clear HK2n
      have HWn := Lib.hid (below_step HW.out hd); clear HW; have HW := HWn; clear HWn; clear hd
      have q0 := blk_cell HK2.out 0; have q1 := blk_cell HK2.out 1; have q2 := blk_cell HK2.out 2; have q3 := blk_cell HK2.out 3; have q4 := blk_cell HK2.out 4; have q5 := blk_cell HK2.out 5; have q6 := blk_cell HK2.out 6; have q7 := blk_cell HK2.out 7
      simp only [List.getElem?_toArray, List.getElem?_cons_zero, List.getElem?_cons_succ] at q0 q1 q2 q3 q4 q5 q6 q7
      have fq0 := blk_frozen HK2.out 0; have fq1 := blk_frozen HK2.out 1; have fq2 := blk_frozen HK2.out 2; have fq3 := blk_frozen HK2.out 3; have fq4 := blk_frozen HK2.out 4; have fq5 := blk_frozen HK2.out 5; have fq6 := blk_frozen HK2.out 6; have fq7 := blk_frozen HK2.out 7
      go_wp2_with fail
      (try simp only [Exit.inBlock, Exit.then]); refine bodyPost_ret (results_ct rfl _ _ (w.heap.size + 2) 28 _ (0, 0) _ rfl (put8 (c0 := .int .i64 0) (c1 := .int .i64 0) (c2 := .bool false) (c3 := .bool false) (c4 := .int .i64 0) (c5 := .int .i64 0) (c6 := .bool false) (c7 := .bool false) ?hx) Try.underlying28 rfl (by kernel_rfl)) rfl ?_
      case hx => exact (by (with_reducible repeat (first | exact HK2.out | refine blk_far ?_ (Nat.ne_of_lt (by assumption)) _)))
      exact ⟨rfl, (by (with_reducible repeat (first | exact HW.out | refine Below.setCell ?_ (by first | exact Nat.le_refl _ | exact Nat.le_add_right _ _ | exact Nat.le_trans (Nat.le_succ _) (Nat.le_succ _) | exact Nat.le_of_lt (by assumption)) _)))⟩
    simp only [impl_TurnArea.j0, Bool.not_true, Bool.false_eq_true, if_false] at h
    replace h := Option.bind_eq_some_iff.mp h
    obtain ⟨⟨b1, b2, b3, b4⟩, hbk, h⟩ := h
    have HBK := Lib.hid hbk; clear hbk; dsimp only at h
    by_cases hk : a0_0 = 1
    · have kb : (a0_0 == 1) = true := beq_iff_eq.mpr hk
      rw [if_pos hk] at h
      replace h := Option.bind_eq_some_iff.mp h
      obtain ⟨⟨e1, e2, e3⟩, h_, h⟩ := h
      have HE := Lib.hid h_; clear h_
      dsimp only at h
      have HH := Lib.hid h; clear h hk
      go_enter Try.func44, Try.ntmps44
      go_wp2_with fail
      refine (impl_GoodTurn.calls _ _ _ _ _ _ HG.out).mono ?_; rintro e w1 ⟨rfl, hd⟩
      have HK0n := Lib.hid (blk_below HK0.out hd); clear HK0; have HK0 := HK0n; clear HK0n
      have HK1n := Lib.hid (blk_below HK1.out hd); clear HK1; have HK1 := HK1n; clear HK1n
      have HK2n := Lib.hid (blk_below HK2.out hd); clear HK2; have HK2 := HK2n; clear HK2n
      have HWn := Lib.hid (below_step HW.out hd); clear HW; have HW := HWn; clear HWn; clear hd
      have y0 := blk_cell HK1.out 0; have y1 := blk_cell HK1.out 1; have y2 := blk_cell HK1.out 2; have y3 := blk_cell HK1.out 3; have y4 := blk_cell HK1.out 4; have y5 := blk_cell HK1.out 5; have y6 := blk_cell HK1.out 6; have y7 := blk_cell HK1.out 7
      simp only [List.getElem?_toArray, List.getElem?_cons_zero, List.getElem?_cons_succ] at y0 y1 y2 y3 y4 y5 y6 y7
      go_wp2_with fail
      refine (impl_GoodArea.calls _ _ _ _ _ _ _ _ _ _ HG2.out).mono ?_; rintro e w2 ⟨rfl, hd⟩
      clear y0 y1 y2 y3 y4 y5 y6 y7
      have HK0n := Lib.hid (blk_below HK0.out hd); clear HK0; have HK0 := HK0n; clear HK0n
      have HK1n := Lib.hid (blk_below HK1.out hd); clear HK1; have HK1 := HK1n; clear HK1n
      have HK2n := Lib.hid (blk_below HK2.out hd); clear HK2; have HK2 := HK2n; clear HK2n
      have HWn := Lib.hid (below_step HW.out hd); clear HW; have HW := HWn; clear HWn; clear hd
      have y0 := blk_cell HK1.out 0; have y1 := blk_cell HK1.out 1; have y2 := blk_cell HK1.out 2; have y3 := blk_cell HK1.out 3; have y4 := blk_cell HK1.out 4; have y5 := blk_cell HK1.out 5; have y6 := blk_cell HK1.out 6; have y7 := blk_cell HK1.out 7
      simp only [List.getElem?_toArray, List.getElem?_cons_zero, List.getElem?_cons_succ] at y0 y1 y2 y3 y4 y5 y6 y7
      go_wp2_with fail
      refine (impl_Area_block.calls _ _ _ _ _ _ _ _ _ _ _ _ _ HBK.out).mono ?_; rintro e w3 ⟨rfl, hd⟩
      clear y0 y1 y2 y3 y4 y5 y6 y7
      have HK0n := Lib.hid (blk_below HK0.out hd); clear HK0; have HK0 := HK0n; clear HK0n
      have HK1n := Lib.hid (blk_below HK1.out hd); clear HK1; have HK1 := HK1n; clear HK1n
      have HK2n := Lib.hid (blk_below HK2.out hd); clear HK2; have HK2 := HK2n; clear HK2n
      have HWn := Lib.hid (below_step HW.out hd); clear HW; have HW := HWn; clear HWn; clear hd
      have y0 := blk_cell HK1.out 0; have y1 := blk_cell HK1.out 1; have y2 := blk_cell HK1.out 2; have y3 := blk_cell HK1.out 3; have y4 := blk_cell HK1.out 4; have y5 := blk_cell HK1.out 5; have y6 := blk_cell HK1.out 6; have y7 := blk_cell HK1.out 7
      simp only [List.getElem?_toArray, List.getElem?_cons_zero, List.getElem?_cons_succ] at y0 y1 y2 y3 y4 y5 y6 y7
      have k0 := blk_cell HK0.out 0; have k1 := blk_cell HK0.out 1; have k2 := blk_cell HK0.out 2; have k3 := blk_cell HK0.out 3
      simp only [List.getElem?_toArray, List.getElem?_cons_zero, List.getElem?_cons_succ] at k0 k1 k2 k3
      have lt0_ := blk_lt HK0.out; have lt1_ := blk_lt HK1.out; have lt2_ := blk_lt HK2.out
      have ltb_ : w.heap.size + 2 < w3.heap.size + 1 := Nat.lt_succ_of_lt lt2_; have ltc_ : w.heap.size < w3.heap.size + 1 := Nat.lt_succ_of_lt lt0_
      go_wp2_with fail
      clear y0 y1 y2 y3 y4 y5 y6 y7 k0 k1 k2 k3
      have HK0n := Lib.hid (blk_alloc (blk_alloc HK0.out (.cells #[.int .i64 b1, .int .i64 b2, .int .i64 b3, .int .i64 b4] 111)) (.cells #[.int .i64 a1_0, .int .i64 a1_1, .bool a1_2, .bool a1_3, .int .i64 a1_4, .int .i64 a1_5, .bool a1_6, .bool a1_7] 28)); clear HK0; have HK0 := HK0n; clear HK0n
      have HK1n := Lib.hid (blk_alloc (blk_alloc HK1.out (.cells #[.int .i64 b1, .int .i64 b2, .int .i64 b3, .int .i64 b4] 111)) (.cells #[.int .i64 a1_0, .int .i64 a1_1, .bool a1_2, .bool a1_3, .int .i64 a1_4, .int .i64 a1_5, .bool a1_6, .bool a1_7] 28)); clear HK1; have HK1 := HK1n; clear HK1n
      have HK2n := Lib.hid (blk_alloc (blk_alloc HK2.out (.cells #[.int .i64 b1, .int .i64 b2, .int .i64 b3, .int .i64 b4] 111)) (.cells #[.int .i64 a1_0, .int .i64 a1_1, .bool a1_2, .bool a1_3, .int .i64 a1_4, .int .i64 a1_5, .bool a1_6, .bool a1_7] 28)); clear HK2; have HK2 := HK2n; clear HK2n
      have hk6 := blk_new (w3.alloc (.cells #[.int .i64 b1, .int .i64 b2, .int .i64 b3, .int .i64 b4] 111)) (.cells #[.int .i64 a1_0, .int .i64 a1_1, .bool a1_2, .bool a1_3, .int .i64 a1_4, .int .i64 a1_5, .bool a1_6, .bool a1_7] 28); simp only [World.size_alloc] at hk6; have HK6 := Lib.hid hk6; clear hk6
      have HWn := Lib.hid (below_alloc (below_alloc HW.out (.cells #[.int .i64 b1, .int .i64 b2, .int .i64 b3, .int .i64 b4] 111)) (.cells #[.int .i64 a1_0, .int .i64 a1_1, .bool a1_2, .bool a1_3, .int .i64 a1_4, .int .i64 a1_5, .bool a1_6, .bool a1_7] 28)); clear HW; have HW := HWn; clear HWn
      refine (impl_Turn_ends.calls _ _ _ _ _ _ _ _ _ _ HE.out).mono ?_; rintro e w4 ⟨rfl, hd⟩
      have HK0n := Lib.hid (blk_below HK0.out hd); clear HK0; have HK0 := HK0n; clear HK0n
      have HK1n := Lib.hid (blk_below HK1.out hd); clear HK1; have HK1 := HK1n; clear HK1n
      have HK2n := Lib.hid (blk_below HK2.out hd); clear HK2; have HK2 := HK2n; clear HK2n
      have HK6n := Lib.hid (blk_below HK6.out hd); clear HK6; have HK6 := HK6n; clear HK6n
      have HWn := Lib.hid (below_step HW.out hd); clear HW; have HW := HWn; clear HWn; clear hd
      have y0 := blk_cell HK1.out 0; have y4 := blk_cell HK1.out 4
      simp only [List.getElem?_toArray, List.getElem?_cons_zero, List.getElem?_cons_succ] at y0 y4
      have p0 := blk_cell HK6.out 0; have p1 := blk_cell HK6.out 1; have p2 := blk_cell HK6.out 2; have p3 := blk_cell HK6.out 3; have p4 := blk_cell HK6.out 4; have p5 := blk_cell HK6.out 5; have p6 := blk_cell HK6.out 6; have p7 := blk_cell HK6.out 7
      simp only [List.getElem?_toArray, List.getElem?_cons_zero, List.getElem?_cons_succ] at p0 p1 p2 p3 p4 p5 p6 p7
      have fp0 := blk_frozen HK6.out 0; have fp1 := blk_frozen HK6.out 1; have fp2 := blk_frozen HK6.out 2; have fp3 := blk_frozen HK6.out 3; have fp4 := blk_frozen HK6.out 4; have fp5 := blk_frozen HK6.out 5; have fp6 := blk_frozen HK6.out 6; have fp7 := blk_frozen HK6.out 7
      have q0 := blk_cell HK2.out 0; have q1 := blk_cell HK2.out 1; have q2 := blk_cell HK2.out 2; have q3 := blk_cell HK2.out 3; have q4 := blk_cell HK2.out 4; have q5 := blk_cell HK2.out 5; have q6 := blk_cell HK2.out 6; have q7 := blk_cell HK2.out 7
      simp only [List.getElem?_toArray, List.getElem?_cons_zero, List.getElem?_cons_succ] at q0 q1 q2 q3 q4 q5 q6 q7
      have fq0 := blk_frozen HK2.out 0; have fq1 := blk_frozen HK2.out 1; have fq2 := blk_frozen HK2.out 2; have fq3 := blk_frozen HK2.out 3; have fq4 := blk_frozen HK2.out 4; have fq5 := blk_frozen HK2.out 5; have fq6 := blk_frozen HK2.out 6; have fq7 := blk_frozen HK2.out 7
      have lt6_ := blk_lt HK6.out; have hh := HH.out
      cases e3
      · simp only [Bool.false_eq_true, if_true, if_false, Option.some.injEq, Prod.mk.injEq] at hh
        obtain ⟨rfl, rfl, rfl, rfl, rfl, rfl, rfl, rfl, rfl⟩ := hh
        go_wp2_with fail
        (try simp only [Exit.inBlock, Exit.then]); refine bodyPost_ret (results_ct rfl _ _ (w.heap.size + 2) 28 _ (0, 0) _ rfl (put8 (c0 := .int .i64 0) (c1 := .int .i64 0) (c2 := .bool false) (c3 := .bool false) (c4 := .int .i64 0) (c5 := .int .i64 0) (c6 := .bool false) (c7 := .bool false) ?hx) Try.underlying28 rfl (by kernel_rfl)) rfl ?_
        case hx => exact (by (with_reducible repeat (first | exact HK2.out | refine blk_far ?_ (Nat.ne_of_lt (by assumption)) _)))
        exact ⟨rfl, (by (with_reducible repeat (first | exact HW.out | refine Below.setCell ?_ (by first | exact Nat.le_refl _ | exact Nat.le_add_right _ _ | exact Nat.le_trans (Nat.le_succ _) (Nat.le_succ _) | exact Nat.le_of_lt (by assumption)) _)))⟩
      · simp only [if_true, Option.some.injEq, Prod.mk.injEq] at hh
        have h1_ := blk_put HK6.out 0 (.int .i64 e1) (cs' := #[.int .i64 e1, .int .i64 a1_1, .bool a1_2, .bool a1_3, .int .i64 a1_4, .int .i64 a1_5, .bool a1_6, .bool a1_7]) rfl; have h2_ := blk_put h1_ 4 (.int .i64 e2) (cs' := #[.int .i64 e1, .int .i64 a1_1, .bool a1_2, .bool a1_3, .int .i64 e2, .int .i64 a1_5, .bool a1_6, .bool a1_7]) rfl; have h3_ := blk_put h2_ 0 (.int .i64 e2) (cs' := #[.int .i64 e2, .int .i64 a1_1, .bool a1_2, .bool a1_3, .int .i64 e2, .int .i64 a1_5, .bool a1_6, .bool a1_7]) rfl; have h4_ := blk_put h3_ 4 (.int .i64 e1) (cs' := #[.int .i64 e2, .int .i64 a1_1, .bool a1_2, .bool a1_3, .int .i64 e1, .int .i64 a1_5, .bool a1_6, .bool a1_7]) rfl
        by_cases c1 : a1_0 > a1_4
        · rw [if_pos c1] at hh
          simp only [Option.some.injEq, Prod.mk.injEq] at hh
          obtain ⟨rfl, rfl, rfl, rfl, rfl, rfl, rfl, rfl, rfl⟩ := hh
          have b1_ : decide (a1_0 > a1_4) = true := decide_eq_true c1; clear c1
          have s0 := blk_cell h4_ 0; have s1 := blk_cell h4_ 1; have s2 := blk_cell h4_ 2; have s3 := blk_cell h4_ 3; have s4 := blk_cell h4_ 4; have s5 := blk_cell h4_ 5; have s6 := blk_cell h4_ 6; have s7 := blk_cell h4_ 7
          simp only [List.getElem?_toArray, List.getElem?_cons_zero, List.getElem?_cons_succ] at s0 s1 s2 s3 s4 s5 s6 s7
          clear h1_ h2_ h3_ h4_
          go_wp2_with fail
          (try simp only [Exit.inBlock, Exit.then]); refine bodyPost_ret (results_ct rfl _ _ (w.heap.size + 2) 28 _ (0, 0) _ rfl (put8 (c0 := .int .i64 0) (c1 := .int .i64 0) (c2 := .bool false) (c3 := .bool false) (c4 := .int .i64 0) (c5 := .int .i64 0) (c6 := .bool false) (c7 := .bool false) ?hx) Try.underlying28 rfl (by kernel_rfl)) rfl ?_
          case hx => exact (by (with_reducible repeat (first | exact HK2.out | refine blk_far ?_ (Nat.ne_of_lt (by assumption)) _)))
          exact ⟨rfl, (by (with_reducible repeat (first | exact HW.out | refine Below.setCell ?_ (by first | exact Nat.le_refl _ | exact Nat.le_add_right _ _ | exact Nat.le_trans (Nat.le_succ _) (Nat.le_succ _) | exact Nat.le_of_lt (by assumption)) _)))⟩
        · rw [if_neg c1] at hh
          simp only [Option.some.injEq, Prod.mk.injEq] at hh
          obtain ⟨rfl, rfl, rfl, rfl, rfl, rfl, rfl, rfl, rfl⟩ := hh
          have b1_ : decide (a1_0 > a1_4) = false := decide_eq_false c1; clear c1
          have s0 := blk_cell h2_ 0; have s1 := blk_cell h2_ 1; have s2 := blk_cell h2_ 2; have s3 := blk_cell h2_ 3; have s4 := blk_cell h2_ 4; have s5 := blk_cell h2_ 5; have s6 := blk_cell h2_ 6; have s7 := blk_cell h2_ 7
          simp only [List.getElem?_toArray, List.getElem?_cons_zero, List.getElem?_cons_succ] at s0 s1 s2 s3 s4 s5 s6 s7
          clear h1_ h2_ h3_ h4_
          go_wp2_with fail
          (try simp only [Exit.inBlock, Exit.then]); refine bodyPost_ret (results_ct rfl _ _ (w.heap.size + 2) 28 _ (0, 0) _ rfl (put8 (c0 := .int .i64 0) (c1 := .int .i64 0) (c2 := .bool false) (c3 := .bool false) (c4 := .int .i64 0) (c5 := .int .i64 0) (c6 := .bool false) (c7 := .bool false) ?hx) Try.underlying28 rfl (by kernel_rfl)) rfl ?_
          case hx => exact (by (with_reducible repeat (first | exact HK2.out | refine blk_far ?_ (Nat.ne_of_lt (by assumption)) _)))
          exact ⟨rfl, (by (with_reducible repeat (first | exact HW.out | refine Below.setCell ?_ (by first | exact Nat.le_refl _ | exact Nat.le_add_right _ _ | exact Nat.le_trans (Nat.le_succ _) (Nat.le_succ _) | exact Nat.le_of_lt (by assumption)) _)))⟩
    · have kb : (a0_0 == 1) = false := beq_eq_false_iff_ne.mpr hk
      rw [if_neg hk] at h
      replace h := Option.bind_eq_some_iff.mp h
      obtain ⟨⟨e1, e2, e3⟩, h_, h⟩ := h
      have HE := Lib.hid h_; clear h_
      dsimp only at h
      have HH := Lib.hid h; clear h hk
      go_enter Try.func44, Try.ntmps44
      go_wp2_with fail
      refine (impl_GoodTurn.calls _ _ _ _ _ _ HG.out).mono ?_; rintro e w1 ⟨rfl, hd⟩
      have HK0n := Lib.hid (blk_below HK0.out hd); clear HK0; have HK0 := HK0n; clear HK0n
      have HK1n := Lib.hid (blk_below HK1.out hd); clear HK1; have HK1 := HK1n; clear HK1n
      have HK2n := Lib.hid (blk_below HK2.out hd); clear HK2; have HK2 := HK2n; clear HK2n
      have HWn := Lib.hid (below_step HW.out hd); clear HW; have HW := HWn; clear HWn; clear hd
      have y0 := blk_cell HK1.out 0; have y1 := blk_cell HK1.out 1; have y2 := blk_cell HK1.out 2; have y3 := blk_cell HK1.out 3; have y4 := blk_cell HK1.out 4; have y5 := blk_cell HK1.out 5; have y6 := blk_cell HK1.out 6; have y7 := blk_cell HK1.out 7
      simp only [List.getElem?_toArray, List.getElem?_cons_zero, List.getElem?_cons_succ] at y0 y1 y2 y3 y4 y5 y6 y7
      go_wp2_with fail
      refine (impl_GoodArea.calls _ _ _ _ _ _ _ _ _ _ HG2.out).mono ?_; rintro e w2 ⟨rfl, hd⟩
      clear y0 y1 y2 y3 y4 y5 y6 y7
      have HK0n := Lib.hid (blk_below HK0.out hd); clear HK0; have HK0 := HK0n; clear HK0n
      have HK1n := Lib.hid (blk_below HK1.out hd); clear HK1; have HK1 := HK1n; clear HK1n
      have HK2n := Lib.hid (blk_below HK2.out hd); clear HK2; have HK2 := HK2n; clear HK2n
      have HWn := Lib.hid (below_step HW.out hd); clear HW; have HW := HWn; clear HWn; clear hd
      have y0 := blk_cell HK1.out 0; have y1 := blk_cell HK1.out 1; have y2 := blk_cell HK1.out 2; have y3 := blk_cell HK1.out 3; have y4 := blk_cell HK1.out 4; have y5 := blk_cell HK1.out 5; have y6 := blk_cell HK1.out 6; have y7 := blk_cell HK1.out 7
      simp only [List.getElem?_toArray, List.getElem?_cons_zero, List.getElem?_cons_succ] at y0 y1 y2 y3 y4 y5 y6 y7
      go_wp2_with fail
      refine (impl_Area_block.calls _ _ _ _ _ _ _ _ _ _ _ _ _ HBK.out).mono ?_; rintro e w3 ⟨rfl, hd⟩
      clear y0 y1 y2 y3 y4 y5 y6 y7
      have HK0n := Lib.hid (blk_below HK0.out hd); clear HK0; have HK0 := HK0n; clear HK0n
      have HK1n := Lib.hid (blk_below HK1.out hd); clear HK1; have HK1 := HK1n; clear HK1n
      have HK2n := Lib.hid (blk_below HK2.out hd); clear HK2; have HK2 := HK2n; clear HK2n
      have HWn := Lib.hid (below_step HW.out hd); clear HW; have HW := HWn; clear HWn; clear hd
      have y0 := blk_cell HK1.out 0; have y1 := blk_cell HK1.out 1; have y2 := blk_cell HK1.out 2; have y3 := blk_cell HK1.out 3; have y4 := blk_cell HK1.out 4; have y5 := blk_cell HK1.out 5; have y6 := blk_cell HK1.out 6; have y7 := blk_cell HK1.out 7
      simp only [List.getElem?_toArray, List.getElem?_cons_zero, List.getElem?_cons_succ] at y0 y1 y2 y3 y4 y5 y6 y7
      have k0 := blk_cell HK0.out 0; have k1 := blk_cell HK0.out 1; have k2 := blk_cell HK0.out 2; have k3 := blk_cell HK0.out 3
      simp only [List.getElem?_toArray, List.getElem?_cons_zero, List.getElem?_cons_succ] at k0 k1 k2 k3
      have lt0_ := blk_lt HK0.out; have lt1_ := blk_lt HK1.out; have lt2_ := blk_lt HK2.out
      have ltb_ : w.heap.size + 2 < w3.heap.size + 1 := Nat.lt_succ_of_lt lt2_; have ltc_ : w.heap.size < w3.heap.size + 1 := Nat.lt_succ_of_lt lt0_
      go_wp2_with fail
      clear y0 y1 y2 y3 y4 y5 y6 y7 k0 k1 k2 k3
      have HK0n := Lib.hid (blk_alloc (blk_alloc HK0.out (.cells #[.int .i64 b1, .int .i64 b2, .int .i64 b3, .int .i64 b4] 111)) (.cells #[.int .i64 a1_0, .int .i64 a1_1, .bool a1_2, .bool a1_3, .int .i64 a1_4, .int .i64 a1_5, .bool a1_6, .bool a1_7] 28)); clear HK0; have HK0 := HK0n; clear HK0n
      have HK1n := Lib.hid (blk_alloc (blk_alloc HK1.out (.cells #[.int .i64 b1, .int .i64 b2, .int .i64 b3, .int .i64 b4] 111)) (.cells #[.int .i64 a1_0, .int .i64 a1_1, .bool a1_2, .bool a1_3, .int .i64 a1_4, .int .i64 a1_5, .bool a1_6, .bool a1_7] 28)); clear HK1; have HK1 := HK1n; clear HK1n
      have HK2n := Lib.hid (blk_alloc (blk_alloc HK2.out (.cells #[.int .i64 b1, .int .i64 b2, .int .i64 b3, .int .i64 b4] 111)) (.cells #[.int .i64 a1_0, .int .i64 a1_1, .bool a1_2, .bool a1_3, .int .i64 a1_4, .int .i64 a1_5, .bool a1_6, .bool a1_7] 28)); clear HK2; have HK2 := HK2n; clear HK2n
      have hk6 := blk_new (w3.alloc (.cells #[.int .i64 b1, .int .i64 b2, .int .i64 b3, .int .i64 b4] 111)) (.cells #[.int .i64 a1_0, .int .i64 a1_1, .bool a1_2, .bool a1_3, .int .i64 a1_4, .int .i64 a1_5, .bool a1_6, .bool a1_7] 28); simp only [World.size_alloc] at hk6; have HK6 := Lib.hid hk6; clear hk6
      have HWn := Lib.hid (below_alloc (below_alloc HW.out (.cells #[.int .i64 b1, .int .i64 b2, .int .i64 b3, .int .i64 b4] 111)) (.cells #[.int .i64 a1_0, .int .i64 a1_1, .bool a1_2, .bool a1_3, .int .i64 a1_4, .int .i64 a1_5, .bool a1_6, .bool a1_7] 28)); clear HW; have HW := HWn; clear HWn
      refine (impl_Turn_ends.calls _ _ _ _ _ _ _ _ _ _ HE.out).mono ?_; rintro e w4 ⟨rfl, hd⟩
      have HK0n := Lib.hid (blk_below HK0.out hd); clear HK0; have HK0 := HK0n; clear HK0n
      have HK1n := Lib.hid (blk_below HK1.out hd); clear HK1; have HK1 := HK1n; clear HK1n
      have HK2n := Lib.hid (blk_below HK2.out hd); clear HK2; have HK2 := HK2n; clear HK2n
      have HK6n := Lib.hid (blk_below HK6.out hd); clear HK6; have HK6 := HK6n; clear HK6n
      have HWn := Lib.hid (below_step HW.out hd); clear HW; have HW := HWn; clear HWn; clear hd
      have y1 := blk_cell HK1.out 1; have y5 := blk_cell HK1.out 5
      simp only [List.getElem?_toArray, List.getElem?_cons_zero, List.getElem?_cons_succ] at y1 y5
      have p0 := blk_cell HK6.out 0; have p1 := blk_cell HK6.out 1; have p2 := blk_cell HK6.out 2; have p3 := blk_cell HK6.out 3; have p4 := blk_cell HK6.out 4; have p5 := blk_cell HK6.out 5; have p6 := blk_cell HK6.out 6; have p7 := blk_cell HK6.out 7
      simp only [List.getElem?_toArray, List.getElem?_cons_zero, List.getElem?_cons_succ] at p0 p1 p2 p3 p4 p5 p6 p7
      have fp0 := blk_frozen HK6.out 0; have fp1 := blk_frozen HK6.out 1; have fp2 := blk_frozen HK6.out 2; have fp3 := blk_frozen HK6.out 3; have fp4 := blk_frozen HK6.out 4; have fp5 := blk_frozen HK6.out 5; have fp6 := blk_frozen HK6.out 6; have fp7 := blk_frozen HK6.out 7
      have q0 := blk_cell HK2.out 0; have q1 := blk_cell HK2.out 1; have q2 := blk_cell HK2.out 2; have q3 := blk_cell HK2.out 3; have q4 := blk_cell HK2.out 4; have q5 := blk_cell HK2.out 5; have q6 := blk_cell HK2.out 6; have q7 := blk_cell HK2.out 7
      simp only [List.getElem?_toArray, List.getElem?_cons_zero, List.getElem?_cons_succ] at q0 q1 q2 q3 q4 q5 q6 q7
      have fq0 := blk_frozen HK2.out 0; have fq1 := blk_frozen HK2.out 1; have fq2 := blk_frozen HK2.out 2; have fq3 := blk_frozen HK2.out 3; have fq4 := blk_frozen HK2.out 4; have fq5 := blk_frozen HK2.out 5; have fq6 := blk_frozen HK2.out 6; have fq7 := blk_frozen HK2.out 7
      have lt6_ := blk_lt HK6.out; have hh := HH.out
      cases e3
      · simp only [Bool.false_eq_true, if_true, if_false, Option.some.injEq, Prod.mk.injEq] at hh
        obtain ⟨rfl, rfl, rfl, rfl, rfl, rfl, rfl, rfl, rfl⟩ := hh
        go_wp2_with fail
        (try simp only [Exit.inBlock, Exit.then]); refine bodyPost_ret (results_ct rfl _ _ (w.heap.size + 2) 28 _ (0, 0) _ rfl (put8 (c0 := .int .i64 0) (c1 := .int .i64 0) (c2 := .bool false) (c3 := .bool false) (c4 := .int .i64 0) (c5 := .int .i64 0) (c6 := .bool false) (c7 := .bool false) ?hx) Try.underlying28 rfl (by kernel_rfl)) rfl ?_
        case hx => exact (by (with_reducible repeat (first | exact HK2.out | refine blk_far ?_ (Nat.ne_of_lt (by assumption)) _)))
        exact ⟨rfl, (by (with_reducible repeat (first | exact HW.out | refine Below.setCell ?_ (by first | exact Nat.le_refl _ | exact Nat.le_add_right _ _ | exact Nat.le_trans (Nat.le_succ _) (Nat.le_succ _) | exact Nat.le_of_lt (by assumption)) _)))⟩
      · simp only [if_true, Option.some.injEq, Prod.mk.injEq] at hh
        have h1_ := blk_put HK6.out 1 (.int .i64 e1) (cs' := #[.int .i64 a1_0, .int .i64 e1, .bool a1_2, .bool a1_3, .int .i64 a1_4, .int .i64 a1_5, .bool a1_6, .bool a1_7]) rfl; have h2_ := blk_put h1_ 5 (.int .i64 e2) (cs' := #[.int .i64 a1_0, .int .i64 e1, .bool a1_2, .bool a1_3, .int .i64 a1_4, .int .i64 e2, .bool a1_6, .bool a1_7]) rfl; have h3_ := blk_put h2_ 1 (.int .i64 e2) (cs' := #[.int .i64 a1_0, .int .i64 e2, .bool a1_2, .bool a1_3, .int .i64 a1_4, .int .i64 e2, .bool a1_6, .bool a1_7]) rfl; have h4_ := blk_put h3_ 5 (.int .i64 e1) (cs' := #[.int .i64 a1_0, .int .i64 e2, .bool a1_2, .bool a1_3, .int .i64 a1_4, .int .i64 e1, .bool a1_6, .bool a1_7]) rfl
        by_cases c1 : a1_1 > a1_5
        · rw [if_pos c1] at hh
          simp only [Option.some.injEq, Prod.mk.injEq] at hh
          obtain ⟨rfl, rfl, rfl, rfl, rfl, rfl, rfl, rfl, rfl⟩ := hh
          have b1_ : decide (a1_1 > a1_5) = true := decide_eq_true c1; clear c1
          have s0 := blk_cell h4_ 0; have s1 := blk_cell h4_ 1; have s2 := blk_cell h4_ 2; have s3 := blk_cell h4_ 3; have s4 := blk_cell h4_ 4; have s5 := blk_cell h4_ 5; have s6 := blk_cell h4_ 6; have s7 := blk_cell h4_ 7
          simp only [List.getElem?_toArray, List.getElem?_cons_zero, List.getElem?_cons_succ] at s0 s1 s2 s3 s4 s5 s6 s7
          clear h1_ h2_ h3_ h4_
          go_wp2_with fail
          (try simp only [Exit.inBlock, Exit.then]); refine bodyPost_ret (results_ct rfl _ _ (w.heap.size + 2) 28 _ (0, 0) _ rfl (put8 (c0 := .int .i64 0) (c1 := .int .i64 0) (c2 := .bool false) (c3 := .bool false) (c4 := .int .i64 0) (c5 := .int .i64 0) (c6 := .bool false) (c7 := .bool false) ?hx) Try.underlying28 rfl (by kernel_rfl)) rfl ?_
          case hx => exact (by (with_reducible repeat (first | exact HK2.out | refine blk_far ?_ (Nat.ne_of_lt (by assumption)) _)))
          exact ⟨rfl, (by (with_reducible repeat (first | exact HW.out | refine Below.setCell ?_ (by first | exact Nat.le_refl _ | exact Nat.le_add_right _ _ | exact Nat.le_trans (Nat.le_succ _) (Nat.le_succ _) | exact Nat.le_of_lt (by assumption)) _)))⟩
        · rw [if_neg c1] at hh
          simp only [Option.some.injEq, Prod.mk.injEq] at hh
          obtain ⟨rfl, rfl, rfl, rfl, rfl, rfl, rfl, rfl, rfl⟩ := hh
          have b1_ : decide (a1_1 > a1_5) = false := decide_eq_false c1; clear c1
          have s0 := blk_cell h2_ 0; have s1 := blk_cell h2_ 1; have s2 := blk_cell h2_ 2; have s3 := blk_cell h2_ 3; have s4 := blk_cell h2_ 4; have s5 := blk_cell h2_ 5; have s6 := blk_cell h2_ 6; have s7 := blk_cell h2_ 7
          simp only [List.getElem?_toArray, List.getElem?_cons_zero, List.getElem?_cons_succ] at s0 s1 s2 s3 s4 s5 s6 s7
          clear h1_ h2_ h3_ h4_
          go_wp2_with fail
          (try simp only [Exit.inBlock, Exit.then]); refine bodyPost_ret (results_ct rfl _ _ (w.heap.size + 2) 28 _ (0, 0) _ rfl (put8 (c0 := .int .i64 0) (c1 := .int .i64 0) (c2 := .bool false) (c3 := .bool false) (c4 := .int .i64 0) (c5 := .int .i64 0) (c6 := .bool false) (c7 := .bool false) ?hx) Try.underlying28 rfl (by kernel_rfl)) rfl ?_
          case hx => exact (by (with_reducible repeat (first | exact HK2.out | refine blk_far ?_ (Nat.ne_of_lt (by assumption)) _)))
          exact ⟨rfl, (by (with_reducible repeat (first | exact HW.out | refine Below.setCell ?_ (by first | exact Nat.le_refl _ | exact Nat.le_add_right _ _ | exact Nat.le_trans (Nat.le_succ _) (Nat.le_succ _) | exact Nat.le_of_lt (by assumption)) _)))⟩

/-! ### laws_FnExactTurnArea: function 10 -/

def laws_FnExactTurnArea.f (k : Nat) (a0_0 : Int) (a0_1 : Int) (a0_2 : Int) (a0_3 : Bool) (a1_0 : Int) (a1_1 : Int) (a1_2 : Bool) (a1_3 : Bool) (a1_4 : Int) (a1_5 : Int) (a1_6 : Bool) (a1_7 : Bool) : Option (Bool) := (laws_toTurn.f a0_0 a0_1 a0_2 a0_3).bind fun bt198 => ((laws_toArea.f a1_0 a1_1 a1_2 a1_3 a1_4 a1_5 a1_6 a1_7).bind fun bt202 => ((spec_TurnArea.f k bt198.1 bt198.2.1 bt198.2.2.1 bt198.2.2.2 bt202.1 bt202.2.1 bt202.2.2.1 bt202.2.2.2.1 bt202.2.2.2.2.1 bt202.2.2.2.2.2.1 bt202.2.2.2.2.2.2.1 bt202.2.2.2.2.2.2.2).bind fun bt210 => ((laws_toTurn.f a0_0 a0_1 a0_2 a0_3).bind fun bt220 => ((laws_toArea.f a1_0 a1_1 a1_2 a1_3 a1_4 a1_5 a1_6 a1_7).bind fun bt224 => ((impl_TurnArea.f k bt220.1 bt220.2.1 bt220.2.2.1 bt220.2.2.2 bt224.1 bt224.2.1 bt224.2.2.1 bt224.2.2.2.1 bt224.2.2.2.2.1 bt224.2.2.2.2.2.1 bt224.2.2.2.2.2.2.1 bt224.2.2.2.2.2.2.2).bind fun bt232 => ((laws_eqArea.f bt232.1 bt232.2.1 bt232.2.2.1 bt232.2.2.2.1 bt232.2.2.2.2.1 bt232.2.2.2.2.2.1 bt232.2.2.2.2.2.2.1 bt232.2.2.2.2.2.2.2.1 bt210.1 bt210.2.1 bt210.2.2.1 bt210.2.2.2.1 bt210.2.2.2.2.1 bt210.2.2.2.2.2.1 bt210.2.2.2.2.2.2.1 bt210.2.2.2.2.2.2.2.1).bind fun t242 => (if t242 = true then (if (bt232.2.2.2.2.2.2.2.2 != bt210.2.2.2.2.2.2.2.2) = true then (some false) else (some true)) else (some false))))))))

end Go.Proofs.Ytaclplimbnihkaa.PFnExactTurnArea
