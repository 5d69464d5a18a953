/- Functions of the program as Lean functions, and proofs that the Go code comes to their answers: for the law FnExactMeet; made out of the print by a program of mine (compact.py). No conditions but each theorem's own. -/
import Derived.Test.YtaclplimbnihkaaMFnExactMeeta0
namespace Go.Proofs.Ytaclplimbnihkaa.PFnExactMeet
open Go.RowKit Go.Proofs.YtaclplimbnihkaaW.PrintWords Go.Proofs.YtaclplimbnihkaaW.PrintLast Go.Proofs.YtaclplimbnihkaaW.PrintMore
attribute [local go_sem] max2_int min2_int max_two min_two max_three min_three max_four min_four   -- for this text's walks alone
set_option linter.unusedVariables false
set_option linter.unusedSimpArgs false

set_option maxHeartbeats 8000000 in
set_option maxRecDepth 100000 in
theorem spec_GoodRef.calls (a0_0 : Int) (a0_1 : Int) (a0_2 : Bool) (a0_3 : Bool) (r : Bool) (w : World) (h : spec_GoodRef.f a0_0 a0_1 a0_2 a0_3 = some r) :
    Calls Try.prog 78 #[.agg #[.int .i64 a0_0, .int .i64 a0_1, .bool a0_2, .bool a0_3]] w fun e w' => e = .returned (.bool r) ∧ Below w.heap.size w w' := by
  have hu26 := Try.underlying26
  have HB := Aside0.mk (Below.refl w.heap.size w)
  have H : (if a0_0 ≥ 1 then (if a0_0 ≤ 1000 then (if a0_1 ≥ 1 then (some (decide (a0_1 ≤ 200))) else (some false)) else (some false)) else (some false)) = some r := h
  clear h
  by_cases c2 : a0_0 ≥ 1
  · rw [if_pos c2] at H
    have c2b0 : decide (1 ≤ a0_0) = true := decide_eq_true c2
    clear c2
    by_cases c3 : a0_0 ≤ 1000
    · rw [if_pos c3] at H
      have c3b0 : decide (a0_0 ≤ 1000) = true := decide_eq_true c3
      clear c3
      by_cases c4 : a0_1 ≥ 1
      · rw [if_pos c4] at H
        have c4b0 : decide (1 ≤ a0_1) = true := decide_eq_true c4
        clear c4
        obtain rfl := Option.some.inj H
        go_enter Try.func78, Try.ntmps78
        go_wp2_with (first | ((with_reducible refine gate_dst (N := 1) rfl ?_); refine box_event ?hg (N := 1) ?hd (cs := #[.int .i64 a0_0, .int .i64 a0_1, .bool a0_2, .bool a0_3]) (t := 26) ?hr ?_; (case hd => rfl); (case hg => rfl); (case hr => first | (go_simp; done) | (go_simp; rfl)); intro gb121 hg w5 hbox hb; have n0_ := Aside0.mk (below_step (by repeat (first | (with_reducible first | exact HB.out | apply below_alloc | apply pw_below_drewN | apply below_drew1) | exact HB.out)) hb); have n1_ := Aside0.mk (hbox); have n2_ := Aside0.mk ((by rw [hg]; exact (below_size (by repeat (first | (with_reducible first | exact HB.out | apply below_alloc | apply pw_below_drewN | apply below_drew1) | exact HB.out))) : w.heap.size ≤ gb121)); have n3_ := Aside0.mk ((by rw [hg]; exact (below_size (by repeat (first | (with_reducible first | exact HB.out | apply below_alloc | apply pw_below_drewN | apply below_drew1) | exact HB.out))) : w.heap.size ≤ gb121)); clear HB; have HB := n0_; have BK121 := n1_; have GW121 := n2_; have GE121 := n3_; clear n0_ n1_ n2_ n3_; clear hb hbox hg; have hcz6_0 : w5.cell? ⟨gb121, 0, none⟩ = some (.int .i64 a0_0) := (blk_cell BK121.out 0).trans rfl; have hcz6_1 : w5.cell? ⟨gb121, 1, none⟩ = some (.int .i64 a0_1) := (blk_cell BK121.out 1).trans rfl; have hcz6_2 : w5.cell? ⟨gb121, 2, none⟩ = some (.bool a0_2) := (blk_cell BK121.out 2).trans rfl; have hcz6_3 : w5.cell? ⟨gb121, 3, none⟩ = some (.bool a0_3) := (blk_cell BK121.out 3).trans rfl; have hfz6_0 := blk_frozen BK121.out 0; have hfz6_1 := blk_frozen BK121.out 1; have hfz6_2 := blk_frozen BK121.out 2; have hfz6_3 := blk_frozen BK121.out 3))
        go_ret
        exact ⟨by first | rfl | (simp [errW_none, errW_some] <;> rfl) | (simp [*, errW_none, errW_some] <;> rfl), by repeat (first | (with_reducible first | exact HB.out | apply below_alloc | apply pw_below_drewN | apply below_drew1 | refine below_set ?_ GE121.out) | exact HB.out)⟩
      · rw [if_neg c4] at H
        have c4b0 : decide (1 ≤ a0_1) = false := decide_eq_false c4
        clear c4
        obtain rfl := Option.some.inj H
        go_enter Try.func78, Try.ntmps78
        go_wp2_with (first | ((with_reducible refine gate_dst (N := 1) rfl ?_); refine box_event ?hg (N := 1) ?hd (cs := #[.int .i64 a0_0, .int .i64 a0_1, .bool a0_2, .bool a0_3]) (t := 26) ?hr ?_; (case hd => rfl); (case hg => rfl); (case hr => first | (go_simp; done) | (go_simp; rfl)); intro gb121 hg w7 hbox hb; have n0_ := Aside0.mk (below_step (by repeat (first | (with_reducible first | exact HB.out | apply below_alloc | apply pw_below_drewN | apply below_drew1) | exact HB.out)) hb); have n1_ := Aside0.mk (hbox); have n2_ := Aside0.mk ((by rw [hg]; exact (below_size (by repeat (first | (with_reducible first | exact HB.out | apply below_alloc | apply pw_below_drewN | apply below_drew1) | exact HB.out))) : w.heap.size ≤ gb121)); have n3_ := Aside0.mk ((by rw [hg]; exact (below_size (by repeat (first | (with_reducible first | exact HB.out | apply below_alloc | apply pw_below_drewN | apply below_drew1) | exact HB.out))) : w.heap.size ≤ gb121)); clear HB; have HB := n0_; have BK121 := n1_; have GW121 := n2_; have GE121 := n3_; clear n0_ n1_ n2_ n3_; clear hb hbox hg; have hcz8_0 : w7.cell? ⟨gb121, 0, none⟩ = some (.int .i64 a0_0) := (blk_cell BK121.out 0).trans rfl; have hcz8_1 : w7.cell? ⟨gb121, 1, none⟩ = some (.int .i64 a0_1) := (blk_cell BK121.out 1).trans rfl; have hcz8_2 : w7.cell? ⟨gb121, 2, none⟩ = some (.bool a0_2) := (blk_cell BK121.out 2).trans rfl; have hcz8_3 : w7.cell? ⟨gb121, 3, none⟩ = some (.bool a0_3) := (blk_cell BK121.out 3).trans rfl; have hfz8_0 := blk_frozen BK121.out 0; have hfz8_1 := blk_frozen BK121.out 1; have hfz8_2 := blk_frozen BK121.out 2; have hfz8_3 := blk_frozen BK121.out 3))
        go_ret
        exact ⟨by first | rfl | (simp [errW_none, errW_some] <;> rfl) | (simp [*, errW_none, errW_some] <;> rfl), by repeat (first | (with_reducible first | exact HB.out | apply below_alloc | apply pw_below_drewN | apply below_drew1 | refine below_set ?_ GE121.out) | exact HB.out)⟩
    · rw [if_neg c3] at H
      have c3b0 : decide (a0_0 ≤ 1000) = false := decide_eq_false c3
      clear c3
      obtain rfl := Option.some.inj H
      go_enter Try.func78, Try.ntmps78
      go_wp2_with (first | ((with_reducible refine gate_dst (N := 1) rfl ?_); refine box_event ?hg (N := 1) ?hd (cs := #[.int .i64 a0_0, .int .i64 a0_1, .bool a0_2, .bool a0_3]) (t := 26) ?hr ?_; (case hd => rfl); (case hg => rfl); (case hr => first | (go_simp; done) | (go_simp; rfl)); intro gb121 hg w9 hbox hb; have n0_ := Aside0.mk (below_step (by repeat (first | (with_reducible first | exact HB.out | apply below_alloc | apply pw_below_drewN | apply below_drew1) | exact HB.out)) hb); have n1_ := Aside0.mk (hbox); have n2_ := Aside0.mk ((by rw [hg]; exact (below_size (by repeat (first | (with_reducible first | exact HB.out | apply below_alloc | apply pw_below_drewN | apply below_drew1) | exact HB.out))) : w.heap.size ≤ gb121)); have n3_ := Aside0.mk ((by rw [hg]; exact (below_size (by repeat (first | (with_reducible first | exact HB.out | apply below_alloc | apply pw_below_drewN | apply below_drew1) | exact HB.out))) : w.heap.size ≤ gb121)); clear HB; have HB := n0_; have BK121 := n1_; have GW121 := n2_; have GE121 := n3_; clear n0_ n1_ n2_ n3_; clear hb hbox hg; have hcz10_0 : w9.cell? ⟨gb121, 0, none⟩ = some (.int .i64 a0_0) := (blk_cell BK121.out 0).trans rfl; have hcz10_1 : w9.cell? ⟨gb121, 1, none⟩ = some (.int .i64 a0_1) := (blk_cell BK121.out 1).trans rfl; have hcz10_2 : w9.cell? ⟨gb121, 2, none⟩ = some (.bool a0_2) := (blk_cell BK121.out 2).trans rfl; have hcz10_3 : w9.cell? ⟨gb121, 3, none⟩ = some (.bool a0_3) := (blk_cell BK121.out 3).trans rfl; have hfz10_0 := blk_frozen BK121.out 0; have hfz10_1 := blk_frozen BK121.out 1; have hfz10_2 := blk_frozen BK121.out 2; have hfz10_3 := blk_frozen BK121.out 3))
      go_ret
      exact ⟨by first | rfl | (simp [errW_none, errW_some] <;> rfl) | (simp [*, errW_none, errW_some] <;> rfl), by repeat (first | (with_reducible first | exact HB.out | apply below_alloc | apply pw_below_drewN | apply below_drew1 | refine below_set ?_ GE121.out) | exact HB.out)⟩
  · rw [if_neg c2] at H
    have c2b0 : decide (1 ≤ a0_0) = false := decide_eq_false c2
    clear c2
    obtain rfl := Option.some.inj H
    go_enter Try.func78, Try.ntmps78
    go_wp2_with (first | ((with_reducible refine gate_dst (N := 1) rfl ?_); refine box_event ?hg (N := 1) ?hd (cs := #[.int .i64 a0_0, .int .i64 a0_1, .bool a0_2, .bool a0_3]) (t := 26) ?hr ?_; (case hd => rfl); (case hg => rfl); (case hr => first | (go_simp; done) | (go_simp; rfl)); intro gb121 hg w11 hbox hb; have n0_ := Aside0.mk (below_step (by repeat (first | (with_reducible first | exact HB.out | apply below_alloc | apply pw_below_drewN | apply below_drew1) | exact HB.out)) hb); have n1_ := Aside0.mk (hbox); have n2_ := Aside0.mk ((by rw [hg]; exact (below_size (by repeat (first | (with_reducible first | exact HB.out | apply below_alloc | apply pw_below_drewN | apply below_drew1) | exact HB.out))) : w.heap.size ≤ gb121)); have n3_ := Aside0.mk ((by rw [hg]; exact (below_size (by repeat (first | (with_reducible first | exact HB.out | apply below_alloc | apply pw_below_drewN | apply below_drew1) | exact HB.out))) : w.heap.size ≤ gb121)); clear HB; have HB := n0_; have BK121 := n1_; have GW121 := n2_; have GE121 := n3_; clear n0_ n1_ n2_ n3_; clear hb hbox hg; have hcz12_0 : w11.cell? ⟨gb121, 0, none⟩ = some (.int .i64 a0_0) := (blk_cell BK121.out 0).trans rfl; have hcz12_1 : w11.cell? ⟨gb121, 1, none⟩ = some (.int .i64 a0_1) := (blk_cell BK121.out 1).trans rfl; have hcz12_2 : w11.cell? ⟨gb121, 2, none⟩ = some (.bool a0_2) := (blk_cell BK121.out 2).trans rfl; have hcz12_3 : w11.cell? ⟨gb121, 3, none⟩ = some (.bool a0_3) := (blk_cell BK121.out 3).trans rfl; have hfz12_0 := blk_frozen BK121.out 0; have hfz12_1 := blk_frozen BK121.out 1; have hfz12_2 := blk_frozen BK121.out 2; have hfz12_3 := blk_frozen BK121.out 3))
    go_ret
    exact ⟨by first | rfl | (simp [errW_none, errW_some] <;> rfl) | (simp [*, errW_none, errW_some] <;> rfl), by repeat (first | (with_reducible first | exact HB.out | apply below_alloc | apply pw_below_drewN | apply below_drew1 | refine below_set ?_ GE121.out) | exact HB.out)⟩



/-! ### spec_GoodArea: function 39 -/

def spec_GoodArea.f (a0_0 : Int) (a0_1 : Int) (a0_2 : Bool) (a0_3 : Bool) (a0_4 : Int) (a0_5 : Int) (a0_6 : Bool) (a0_7 : Bool) : Option (Bool) := (spec_GoodRef.f a0_0 a0_1 a0_2 a0_3).bind fun t123 => (if t123 = true then ((spec_GoodRef.f a0_4 a0_5 a0_6 a0_7).bind fun t124 => (some t124)) else (some false))

set_option maxHeartbeats 8000000 in
set_option maxRecDepth 100000 in
theorem spec_GoodArea.calls (a0_0 : Int) (a0_1 : Int) (a0_2 : Bool) (a0_3 : Bool) (a0_4 : Int) (a0_5 : Int) (a0_6 : Bool) (a0_7 : Bool) (r : Bool) (w : World) (h : spec_GoodArea.f a0_0 a0_1 a0_2 a0_3 a0_4 a0_5 a0_6 a0_7 = some r) :
    Calls Try.prog 39 #[.agg #[.int .i64 a0_0, .int .i64 a0_1, .bool a0_2, .bool a0_3, .int .i64 a0_4, .int .i64 a0_5, .bool a0_6, .bool a0_7]] w fun e w' => e = .returned (.bool r) ∧ Below w.heap.size w w' := by
  have hu28 := Try.underlying28
  have hu26 := Try.underlying26
  have HB := Aside0.mk (Below.refl w.heap.size w)
  have H : ((spec_GoodRef.f a0_0 a0_1 a0_2 a0_3).bind fun t123 => (if t123 = true then ((spec_GoodRef.f a0_4 a0_5 a0_6 a0_7).bind fun t124 => (some t124)) else (some false))) = some r := h
  clear h
  replace H := Option.bind_eq_some_iff.mp H
  obtain ⟨t123, A20, H⟩ := H
  replace H : (if t123 = true then ((spec_GoodRef.f a0_4 a0_5 a0_6 a0_7).bind fun t124 => (some t124)) else (some false)) = some r := H
  have A2 := Aside0.mk A20
  clear A20
  by_cases c3 : t123 = true
  · subst c3
    have H1 : ((spec_GoodRef.f a0_4 a0_5 a0_6 a0_7).bind fun t124 => (some t124)) = some r := by rw [if_pos rfl] at H; exact H
    clear H
    have H := H1
    clear H1
    replace H := Option.bind_eq_some_iff.mp H
    obtain ⟨t124, A40, H⟩ := H
    replace H : (some t124) = some r := H
    have A4 := Aside0.mk A40
    clear A40
    obtain rfl := Option.some.inj H
    go_enter Try.func39, Try.ntmps39
    go_wp2_with (first | ((with_reducible refine gate_dst (N := 1) rfl ?_); refine box_event ?hg (N := 1) ?hd (cs := #[.int .i64 a0_0, .int .i64 a0_1, .bool a0_2, .bool a0_3, .int .i64 a0_4, .int .i64 a0_5, .bool a0_6, .bool a0_7]) (t := 28) ?hr ?_; (case hd => rfl); (case hg => rfl); (case hr => first | (go_simp; done) | (go_simp; rfl)); intro gb122 hg w5 hbox hb; have n0_ := Aside0.mk (below_step (by repeat (first | (with_reducible first | exact HB.out | apply below_alloc | apply pw_below_drewN | apply below_drew1) | exact HB.out)) hb); have n1_ := Aside0.mk (hbox); have n2_ := Aside0.mk ((by rw [hg]; exact (below_size (by repeat (first | (with_reducible first | exact HB.out | apply below_alloc | apply pw_below_drewN | apply below_drew1) | exact HB.out))) : w.heap.size ≤ gb122)); have n3_ := Aside0.mk ((by rw [hg]; exact (below_size (by repeat (first | (with_reducible first | exact HB.out | apply below_alloc | apply pw_below_drewN | apply below_drew1) | exact HB.out))) : w.heap.size ≤ gb122)); clear HB; have HB := n0_; have BK122 := n1_; have GW122 := n2_; have GE122 := n3_; clear n0_ n1_ n2_ n3_; clear hb hbox hg; have hcz6_0 : w5.cell? ⟨gb122, 0, none⟩ = some (.int .i64 a0_0) := (blk_cell BK122.out 0).trans rfl; have hcz6_1 : w5.cell? ⟨gb122, 1, none⟩ = some (.int .i64 a0_1) := (blk_cell BK122.out 1).trans rfl; have hcz6_2 : w5.cell? ⟨gb122, 2, none⟩ = some (.bool a0_2) := (blk_cell BK122.out 2).trans rfl; have hcz6_3 : w5.cell? ⟨gb122, 3, none⟩ = some (.bool a0_3) := (blk_cell BK122.out 3).trans rfl; have hcz6_4 : w5.cell? ⟨gb122, 4, none⟩ = some (.int .i64 a0_4) := (blk_cell BK122.out 4).trans rfl; have hcz6_5 : w5.cell? ⟨gb122, 5, none⟩ = some (.int .i64 a0_5) := (blk_cell BK122.out 5).trans rfl; have hcz6_6 : w5.cell? ⟨gb122, 6, none⟩ = some (.bool a0_6) := (blk_cell BK122.out 6).trans rfl; have hcz6_7 : w5.cell? ⟨gb122, 7, none⟩ = some (.bool a0_7) := (blk_cell BK122.out 7).trans rfl; have hfz6_0 := blk_frozen BK122.out 0; have hfz6_1 := blk_frozen BK122.out 1; have hfz6_2 := blk_frozen BK122.out 2; have hfz6_3 := blk_frozen BK122.out 3; have hfz6_4 := blk_frozen BK122.out 4; have hfz6_5 := blk_frozen BK122.out 5; have hfz6_6 := blk_frozen BK122.out 6; have hfz6_7 := blk_frozen BK122.out 7) | ((with_reducible refine gate_callee (f := 78) rfl ?_); refine goesL_ (some 5) rfl rfl Try.func78 (by kernel_rfl) rfl #[.agg #[.int .i64 a0_0, .int .i64 a0_1, .bool a0_2, .bool a0_3]] rfl (by (try simp only [List.map_toArray, List.map_cons, List.map_nil]); first | done | rfl | (simp only [List.length_drop, List.length_take]; rfl)) ?_; (with_reducible refine (spec_GoodRef.calls a0_0 a0_1 a0_2 a0_3 true _ A2.out).mono ?_); rintro e w7 ⟨rfl, hb⟩; refine ⟨_, rfl, ?_⟩; have n0_ := Aside0.mk (blk_below (g := gb122) (o := .cells #[.int .i64 a0_0, .int .i64 a0_1, .bool a0_2, .bool a0_3, .int .i64 a0_4, .int .i64 a0_5, .bool a0_6, .bool a0_7] 28 (0, 0)) (by (with_reducible repeat (first | refine blk_drewN ?_ _ | refine blk_drew ?_ | refine blk_alloc ?_ _)); exact BK122.out) hb); have n1_ := Aside0.mk (below_step (by repeat (first | (with_reducible first | exact HB.out | apply below_alloc | apply pw_below_drewN | apply below_drew1 | refine below_set ?_ GE122.out) | exact HB.out)) hb); clear BK122; clear HB; have BK122 := n0_; have HB := n1_; clear n0_ n1_; (try clear hb); (try clear hb2); (try clear hk); (try clear hi); have hcz8_0 : w7.cell? ⟨gb122, 0, none⟩ = some (.int .i64 a0_0) := (blk_cell BK122.out 0).trans rfl; have hcz8_1 : w7.cell? ⟨gb122, 1, none⟩ = some (.int .i64 a0_1) := (blk_cell BK122.out 1).trans rfl; have hcz8_2 : w7.cell? ⟨gb122, 2, none⟩ = some (.bool a0_2) := (blk_cell BK122.out 2).trans rfl; have hcz8_3 : w7.cell? ⟨gb122, 3, none⟩ = some (.bool a0_3) := (blk_cell BK122.out 3).trans rfl; have hcz8_4 : w7.cell? ⟨gb122, 4, none⟩ = some (.int .i64 a0_4) := (blk_cell BK122.out 4).trans rfl; have hcz8_5 : w7.cell? ⟨gb122, 5, none⟩ = some (.int .i64 a0_5) := (blk_cell BK122.out 5).trans rfl; have hcz8_6 : w7.cell? ⟨gb122, 6, none⟩ = some (.bool a0_6) := (blk_cell BK122.out 6).trans rfl; have hcz8_7 : w7.cell? ⟨gb122, 7, none⟩ = some (.bool a0_7) := (blk_cell BK122.out 7).trans rfl; have hfz8_0 := blk_frozen BK122.out 0; have hfz8_1 := blk_frozen BK122.out 1; have hfz8_2 := blk_frozen BK122.out 2; have hfz8_3 := blk_frozen BK122.out 3; have hfz8_4 := blk_frozen BK122.out 4; have hfz8_5 := blk_frozen BK122.out 5; have hfz8_6 := blk_frozen BK122.out 6; have hfz8_7 := blk_frozen BK122.out 7) | (go_at_call 78; (with_reducible refine (spec_GoodRef.calls a0_4 a0_5 a0_6 a0_7 t124 _ A4.out).mono ?_); rintro e w9 ⟨rfl, hb⟩; have n0_ := Aside0.mk (blk_below (g := gb122) (o := .cells #[.int .i64 a0_0, .int .i64 a0_1, .bool a0_2, .bool a0_3, .int .i64 a0_4, .int .i64 a0_5, .bool a0_6, .bool a0_7] 28 (0, 0)) (by (with_reducible repeat (first | refine blk_drewN ?_ _ | refine blk_drew ?_ | refine blk_alloc ?_ _)); exact BK122.out) hb); have n1_ := Aside0.mk (below_step (by repeat (first | (with_reducible first | exact HB.out | apply below_alloc | apply pw_below_drewN | apply below_drew1 | refine below_set ?_ GE122.out) | exact HB.out)) hb); clear BK122; clear HB; have BK122 := n0_; have HB := n1_; clear n0_ n1_; (try clear hb); (try clear hb2); (try clear hk); (try clear hi)))
    go_ret
    exact ⟨by first | rfl | (simp [errW_none, errW_some] <;> rfl) | (simp [*, errW_none, errW_some] <;> rfl), by repeat (first | (with_reducible first | exact HB.out | apply below_alloc | apply pw_below_drewN | apply below_drew1 | refine below_set ?_ GE122.out) | exact HB.out)⟩
  · replace c3 := Bool.eq_false_iff.mpr c3
    subst c3
    have H1 : (some false) = some r := by rw [if_neg (show ¬ (false = true) by decide)] at H; exact H
    clear H
    have H := H1
    clear H1
    obtain rfl := Option.some.inj H
    go_enter Try.func39, Try.ntmps39
    go_wp2_with (first | ((with_reducible refine gate_dst (N := 1) rfl ?_); refine box_event ?hg (N := 1) ?hd (cs := #[.int .i64 a0_0, .int .i64 a0_1, .bool a0_2, .bool a0_3, .int .i64 a0_4, .int .i64 a0_5, .bool a0_6, .bool a0_7]) (t := 28) ?hr ?_; (case hd => rfl); (case hg => rfl); (case hr => first | (go_simp; done) | (go_simp; rfl)); intro gb122 hg w10 hbox hb; have n0_ := Aside0.mk (below_step (by repeat (first | (with_reducible first | exact HB.out | apply below_alloc | apply pw_below_drewN | apply below_drew1) | exact HB.out)) hb); have n1_ := Aside0.mk (hbox); have n2_ := Aside0.mk ((by rw [hg]; exact (below_size (by repeat (first | (with_reducible first | exact HB.out | apply below_alloc | apply pw_below_drewN | apply below_drew1) | exact HB.out))) : w.heap.size ≤ gb122)); have n3_ := Aside0.mk ((by rw [hg]; exact (below_size (by repeat (first | (with_reducible first | exact HB.out | apply below_alloc | apply pw_below_drewN | apply below_drew1) | exact HB.out))) : w.heap.size ≤ gb122)); clear HB; have HB := n0_; have BK122 := n1_; have GW122 := n2_; have GE122 := n3_; clear n0_ n1_ n2_ n3_; clear hb hbox hg; have hcz11_0 : w10.cell? ⟨gb122, 0, none⟩ = some (.int .i64 a0_0) := (blk_cell BK122.out 0).trans rfl; have hcz11_1 : w10.cell? ⟨gb122, 1, none⟩ = some (.int .i64 a0_1) := (blk_cell BK122.out 1).trans rfl; have hcz11_2 : w10.cell? ⟨gb122, 2, none⟩ = some (.bool a0_2) := (blk_cell BK122.out 2).trans rfl; have hcz11_3 : w10.cell? ⟨gb122, 3, none⟩ = some (.bool a0_3) := (blk_cell BK122.out 3).trans rfl; have hcz11_4 : w10.cell? ⟨gb122, 4, none⟩ = some (.int .i64 a0_4) := (blk_cell BK122.out 4).trans rfl; have hcz11_5 : w10.cell? ⟨gb122, 5, none⟩ = some (.int .i64 a0_5) := (blk_cell BK122.out 5).trans rfl; have hcz11_6 : w10.cell? ⟨gb122, 6, none⟩ = some (.bool a0_6) := (blk_cell BK122.out 6).trans rfl; have hcz11_7 : w10.cell? ⟨gb122, 7, none⟩ = some (.bool a0_7) := (blk_cell BK122.out 7).trans rfl; have hfz11_0 := blk_frozen BK122.out 0; have hfz11_1 := blk_frozen BK122.out 1; have hfz11_2 := blk_frozen BK122.out 2; have hfz11_3 := blk_frozen BK122.out 3; have hfz11_4 := blk_frozen BK122.out 4; have hfz11_5 := blk_frozen BK122.out 5; have hfz11_6 := blk_frozen BK122.out 6; have hfz11_7 := blk_frozen BK122.out 7) | ((with_reducible refine gate_callee (f := 78) rfl ?_); refine goesL_ (some 5) rfl rfl Try.func78 (by kernel_rfl) rfl #[.agg #[.int .i64 a0_0, .int .i64 a0_1, .bool a0_2, .bool a0_3]] rfl (by (try simp only [List.map_toArray, List.map_cons, List.map_nil]); first | done | rfl | (simp only [List.length_drop, List.length_take]; rfl)) ?_; (with_reducible refine (spec_GoodRef.calls a0_0 a0_1 a0_2 a0_3 false _ A2.out).mono ?_); rintro e w12 ⟨rfl, hb⟩; refine ⟨_, rfl, ?_⟩; have n0_ := Aside0.mk (blk_below (g := gb122) (o := .cells #[.int .i64 a0_0, .int .i64 a0_1, .bool a0_2, .bool a0_3, .int .i64 a0_4, .int .i64 a0_5, .bool a0_6, .bool a0_7] 28 (0, 0)) (by (with_reducible repeat (first | refine blk_drewN ?_ _ | refine blk_drew ?_ | refine blk_alloc ?_ _)); exact BK122.out) hb); have n1_ := Aside0.mk (below_step (by repeat (first | (with_reducible first | exact HB.out | apply below_alloc | apply pw_below_drewN | apply below_drew1 | refine below_set ?_ GE122.out) | exact HB.out)) hb); clear BK122; clear HB; have BK122 := n0_; have HB := n1_; clear n0_ n1_; (try clear hb); (try clear hb2); (try clear hk); (try clear hi)))
    go_ret
    exact ⟨by first | rfl | (simp [errW_none, errW_some] <;> rfl) | (simp [*, errW_none, errW_some] <;> rfl), by repeat (first | (with_reducible first | exact HB.out | apply below_alloc | apply pw_below_drewN | apply below_drew1 | refine below_set ?_ GE122.out) | exact HB.out)⟩



/-! ### spec_l3Normal: function 65 -/

def spec_l3Normal.f (a0_0 : Int) (a0_1 : Int) (a0_2 : Bool) (a0_3 : Bool) (a0_4 : Int) (a0_5 : Int) (a0_6 : Bool) (a0_7 : Bool) : Option (Int × Int × Bool × Bool × Int × Int × Bool × Bool) := if a0_0 > a0_4 then (if a0_1 > a0_5 then (some (a0_4, a0_5, a0_6, a0_7, a0_0, a0_1, a0_2, a0_3)) else (some (a0_4, a0_1, a0_6, a0_3, a0_0, a0_5, a0_2, a0_7))) else (if a0_1 > a0_5 then (some (a0_0, a0_5, a0_2, a0_7, a0_4, a0_1, a0_6, a0_3)) else (some (a0_0, a0_1, a0_2, a0_3, a0_4, a0_5, a0_6, a0_7)))

set_option maxHeartbeats 8000000 in
set_option maxRecDepth 100000 in
theorem spec_l3Normal.calls (a0_0 : Int) (a0_1 : Int) (a0_2 : Bool) (a0_3 : Bool) (a0_4 : Int) (a0_5 : Int) (a0_6 : Bool) (a0_7 : Bool) (r1 : Int) (r2 : Int) (r3 : Bool) (r4 : Bool) (r5 : Int) (r6 : Int) (r7 : Bool) (r8 : Bool) (w : World) (h : spec_l3Normal.f a0_0 a0_1 a0_2 a0_3 a0_4 a0_5 a0_6 a0_7 = some (r1, r2, r3, r4, r5, r6, r7, r8)) :
    Calls Try.prog 65 #[.agg #[.int .i64 a0_0, .int .i64 a0_1, .bool a0_2, .bool a0_3, .int .i64 a0_4, .int .i64 a0_5, .bool a0_6, .bool a0_7]] w fun e w' => e = .returned (.agg #[.int .i64 r1, .int .i64 r2, .bool r3, .bool r4, .int .i64 r5, .int .i64 r6, .bool r7, .bool r8]) ∧ Below w.heap.size w w' := by
  unfold spec_l3Normal.f at h
  by_cases c2 : a0_0 > a0_4 <;> by_cases c3 : a0_1 > a0_5
  all_goals
    simp only [c2, c3, if_true, if_false, Option.some.injEq, Prod.mk.injEq] at h
    obtain ⟨rfl, rfl, rfl, rfl, rfl, rfl, rfl, rfl⟩ := h
    first
      | (have b2 : decide (a0_4 < a0_0) = true := decide_eq_true c2; clear c2)
      | (have b2 : decide (a0_4 < a0_0) = false := decide_eq_false c2; clear c2)
    first
      | (have b3 : decide (a0_5 < a0_1) = true := decide_eq_true c3; clear c3)
      | (have b3 : decide (a0_5 < a0_1) = false := decide_eq_false c3; clear c3)
    go_enter Try.func65, Try.ntmps65
    go_wp2
    refine bodyPost_ret (by simp [results, Try.results65, go_sem]) rfl ⟨rfl, ?_⟩
    exact (((Below.refl _ _).alloc (Nat.le_refl _) _).alloc (by simp) _).alloc (by first | (simp; done) | (simp; omega)) _

/-! ### spec_l3Area: function 71 -/

def spec_l3Area.f (a0 : Int) (a1 : Int) (a2 : Int) (a3 : Int) : Option (Int × Int × Bool × Bool × Int × Int × Bool × Bool) := some (a0, a1, false, false, a2, a3, false, false)

set_option maxHeartbeats 8000000 in
set_option maxRecDepth 100000 in
theorem spec_l3Area.calls (a0 : Int) (a1 : Int) (a2 : Int) (a3 : Int) (r1 : Int) (r2 : Int) (r3 : Bool) (r4 : Bool) (r5 : Int) (r6 : Int) (r7 : Bool) (r8 : Bool) (w : World) (h : spec_l3Area.f a0 a1 a2 a3 = some (r1, r2, r3, r4, r5, r6, r7, r8)) :
    Calls Try.prog 71 #[.int .i64 a0, .int .i64 a1, .int .i64 a2, .int .i64 a3] w fun e w' => e = .returned (.agg #[.int .i64 r1, .int .i64 r2, .bool r3, .bool r4, .int .i64 r5, .int .i64 r6, .bool r7, .bool r8]) ∧ Below w.heap.size w w' := by
  have hu28 := Try.underlying28
  have hu26 := Try.underlying26
  have HB := Aside0.mk (Below.refl w.heap.size w)
  have H : (some (a0, a1, false, false, a2, a3, false, false)) = some (r1, r2, r3, r4, r5, r6, r7, r8) := h
  clear h
  simp only [Option.some.injEq, Prod.mk.injEq] at H
  obtain ⟨rfl, rfl, rfl, rfl, rfl, rfl, rfl, rfl⟩ := H
  go_enter Try.func71, Try.ntmps71
  go_wp2_with (first | ((with_reducible refine gate_dst (N := 8) rfl ?_); refine box_event ?hg (N := 8) ?hd (cs := #[.int .i64 0, .int .i64 0, .bool false, .bool false, .int .i64 0, .int .i64 0, .bool false, .bool false]) (t := 28) ?hr ?_; (case hd => rfl); (case hg => rfl); (case hr => first | (go_simp; done) | (go_simp; rfl)); intro gb128 hg w5 hbox hb; have n0_ := Aside0.mk (below_step (by repeat (first | (with_reducible first | exact HB.out | apply below_alloc | apply pw_below_drewN | apply below_drew1) | exact HB.out)) hb); have n1_ := Aside0.mk (hbox); have n2_ := Aside0.mk ((by rw [hg]; exact (below_size (by repeat (first | (with_reducible first | exact HB.out | apply below_alloc | apply pw_below_drewN | apply below_drew1) | exact HB.out))) : w.heap.size ≤ gb128)); have n3_ := Aside0.mk ((by rw [hg]; exact (below_size (by repeat (first | (with_reducible first | exact HB.out | apply below_alloc | apply pw_below_drewN | apply below_drew1) | exact HB.out))) : w.heap.size ≤ gb128)); clear HB; have HB := n0_; have BK128 := n1_; have GW128 := n2_; have GE128 := n3_; clear n0_ n1_ n2_ n3_; clear hb hbox hg; have hcz6_0 : w5.cell? ⟨gb128, 0, none⟩ = some (.int .i64 0) := (blk_cell BK128.out 0).trans rfl; have hcz6_1 : w5.cell? ⟨gb128, 1, none⟩ = some (.int .i64 0) := (blk_cell BK128.out 1).trans rfl; have hcz6_2 : w5.cell? ⟨gb128, 2, none⟩ = some (.bool false) := (blk_cell BK128.out 2).trans rfl; have hcz6_3 : w5.cell? ⟨gb128, 3, none⟩ = some (.bool false) := (blk_cell BK128.out 3).trans rfl; have hcz6_4 : w5.cell? ⟨gb128, 4, none⟩ = some (.int .i64 0) := (blk_cell BK128.out 4).trans rfl; have hcz6_5 : w5.cell? ⟨gb128, 5, none⟩ = some (.int .i64 0) := (blk_cell BK128.out 5).trans rfl; have hcz6_6 : w5.cell? ⟨gb128, 6, none⟩ = some (.bool false) := (blk_cell BK128.out 6).trans rfl; have hcz6_7 : w5.cell? ⟨gb128, 7, none⟩ = some (.bool false) := (blk_cell BK128.out 7).trans rfl; have hfz6_0 := blk_frozen BK128.out 0; have hfz6_1 := blk_frozen BK128.out 1; have hfz6_2 := blk_frozen BK128.out 2; have hfz6_3 := blk_frozen BK128.out 3; have hfz6_4 := blk_frozen BK128.out 4; have hfz6_5 := blk_frozen BK128.out 5; have hfz6_6 := blk_frozen BK128.out 6; have hfz6_7 := blk_frozen BK128.out 7))
  refine bodyPost_ret (results_cell_row rfl _ _ gb128 28 #[.int .i64 a0, .int .i64 a1, .bool false, .bool false, .int .i64 a2, .int .i64 a3, .bool false, .bool false] (0, 0) _ rfl (by (with_reducible repeat (first | refine blk_drewN ?_ _ | refine blk_drew ?_ | refine blk_alloc ?_ _)); refine blk_put (cs := #[.int .i64 a0, .int .i64 a1, .bool false, .bool false, .int .i64 a2, .int .i64 a3, .bool false, .bool false]) ?_ 7 _ rfl; (with_reducible repeat (first | refine blk_drewN ?_ _ | refine blk_drew ?_ | refine blk_alloc ?_ _)); refine blk_put (cs := #[.int .i64 a0, .int .i64 a1, .bool false, .bool false, .int .i64 a2, .int .i64 a3, .bool false, .bool false]) ?_ 6 _ rfl; (with_reducible repeat (first | refine blk_drewN ?_ _ | refine blk_drew ?_ | refine blk_alloc ?_ _)); refine blk_put (cs := #[.int .i64 a0, .int .i64 a1, .bool false, .bool false, .int .i64 a2, .int .i64 0, .bool false, .bool false]) ?_ 5 _ rfl; (with_reducible repeat (first | refine blk_drewN ?_ _ | refine blk_drew ?_ | refine blk_alloc ?_ _)); refine blk_put (cs := #[.int .i64 a0, .int .i64 a1, .bool false, .bool false, .int .i64 0, .int .i64 0, .bool false, .bool false]) ?_ 4 _ rfl; (with_reducible repeat (first | refine blk_drewN ?_ _ | refine blk_drew ?_ | refine blk_alloc ?_ _)); refine blk_put (cs := #[.int .i64 a0, .int .i64 a1, .bool false, .bool false, .int .i64 0, .int .i64 0, .bool false, .bool false]) ?_ 3 _ rfl; (with_reducible repeat (first | refine blk_drewN ?_ _ | refine blk_drew ?_ | refine blk_alloc ?_ _)); refine blk_put (cs := #[.int .i64 a0, .int .i64 a1, .bool false, .bool false, .int .i64 0, .int .i64 0, .bool false, .bool false]) ?_ 2 _ rfl; (with_reducible repeat (first | refine blk_drewN ?_ _ | refine blk_drew ?_ | refine blk_alloc ?_ _)); refine blk_put (cs := #[.int .i64 a0, .int .i64 0, .bool false, .bool false, .int .i64 0, .int .i64 0, .bool false, .bool false]) ?_ 1 _ rfl; (with_reducible repeat (first | refine blk_drewN ?_ _ | refine blk_drew ?_ | refine blk_alloc ?_ _)); refine blk_put (cs := #[.int .i64 0, .int .i64 0, .bool false, .bool false, .int .i64 0, .int .i64 0, .bool false, .bool false]) ?_ 0 _ rfl; (with_reducible repeat (first | refine blk_drewN ?_ _ | refine blk_drew ?_ | refine blk_alloc ?_ _)); exact BK128.out) Try.underlying28 rfl (by kernel_rfl)) rfl ?_
  exact ⟨by first | rfl | (simp [errW_none, errW_some] <;> rfl) | (simp [*, errW_none, errW_some] <;> rfl), by repeat (first | (with_reducible first | exact HB.out | apply below_alloc | apply pw_below_drewN | apply below_drew1 | refine below_set ?_ GE128.out) | exact HB.out)⟩



/-! ### spec_l3Max: function 72 -/

def spec_l3Max.f (a0 : Int) (a1 : Int) : Option (Int) := if a0 > a1 then (some a0) else (some a1)

set_option maxHeartbeats 8000000 in
set_option maxRecDepth 100000 in
theorem spec_l3Max.calls (a0 : Int) (a1 : Int) (r : Int) (w : World) (h : spec_l3Max.f a0 a1 = some r) :
    Calls Try.prog 72 #[.int .i64 a0, .int .i64 a1] w fun e w' => e = .returned (.int .i64 r) ∧ Drawn0 w w' := by
  have H : (if a0 > a1 then (some a0) else (some a1)) = some r := h
  clear h
  by_cases c3 : a0 > a1
  · rw [if_pos c3] at H
    have c3b0 : decide (a1 < a0) = true := decide_eq_true c3
    clear c3
    obtain rfl := Option.some.inj H
    go_enter Try.func72, Try.ntmps72
    go_wp2
    go_ret
    exact ⟨by first | rfl | (simp; done) | (simp [*]; done), by repeat (first | exact Drawn0.refl _ | apply Drawn0.step)⟩
  · rw [if_neg c3] at H
    have c3b0 : decide (a1 < a0) = false := decide_eq_false c3
    clear c3
    obtain rfl := Option.some.inj H
    go_enter Try.func72, Try.ntmps72
    go_wp2
    go_ret
    exact ⟨by first | rfl | (simp; done) | (simp [*]; done), by repeat (first | exact Drawn0.refl _ | apply Drawn0.step)⟩



/-! ### spec_l3Min: function 73 -/

def spec_l3Min.f (a0 : Int) (a1 : Int) : Option (Int) := if a0 < a1 then (some a0) else (some a1)

set_option maxHeartbeats 8000000 in
set_option maxRecDepth 100000 in
theorem spec_l3Min.calls (a0 : Int) (a1 : Int) (r : Int) (w : World) (h : spec_l3Min.f a0 a1 = some r) :
    Calls Try.prog 73 #[.int .i64 a0, .int .i64 a1] w fun e w' => e = .returned (.int .i64 r) ∧ Drawn0 w w' := by
  have H : (if a0 < a1 then (some a0) else (some a1)) = some r := h
  clear h
  by_cases c3 : a0 < a1
  · rw [if_pos c3] at H
    have c3b0 : decide (a0 < a1) = true := decide_eq_true c3
    clear c3
    obtain rfl := Option.some.inj H
    go_enter Try.func73, Try.ntmps73
    go_wp2
    go_ret
    exact ⟨by first | rfl | (simp; done) | (simp [*]; done), by repeat (first | exact Drawn0.refl _ | apply Drawn0.step)⟩
  · rw [if_neg c3] at H
    have c3b0 : decide (a0 < a1) = false := decide_eq_false c3
    clear c3
    obtain rfl := Option.some.inj H
    go_enter Try.func73, Try.ntmps73
    go_wp2
    go_ret
    exact ⟨by first | rfl | (simp; done) | (simp [*]; done), by repeat (first | exact Drawn0.refl _ | apply Drawn0.step)⟩



/-! ### spec_Meet: function 23 -/

def spec_Meet.j0 : Nat → Bool → Int → Int → Bool → Bool → Int → Int → Bool → Bool → Int → Int → Bool → Bool → Int → Int → Bool → Bool → Option (Int × Int × Bool × Bool × Int × Int × Bool × Bool × Bool)
  | 0, _, _, _, _, _, _, _, _, _, _, _, _, _, _, _, _, _ => none
  | k + 1, x14, x130000, x130001, x130002, x130003, x130004, x130005, x130006, x130007, x131000, x131001, x131002, x131003, x131004, x131005, x131006, x131007 => if x14 = true then (some (0, 0, false, false, 0, 0, false, false, false)) else ((spec_l3Normal.f x130000 x130001 x130002 x130003 x130004 x130005 x130006 x130007).bind fun bt134 => ((spec_l3Normal.f x131000 x131001 x131002 x131003 x131004 x131005 x131006 x131007).bind fun bt142 => ((spec_l3Max.f bt134.1 bt142.1).bind fun t150 => ((spec_l3Max.f bt134.2.1 bt142.2.1).bind fun t151 => ((spec_l3Min.f bt134.2.2.2.2.1 bt142.2.2.2.2.1).bind fun t152 => ((spec_l3Min.f bt134.2.2.2.2.2.1 bt142.2.2.2.2.2.1).bind fun t153 => ((spec_l3Area.f t150 t151 t152 t153).bind fun bt154 => (if bt154.1 > bt154.2.2.2.2.1 then (some (0, 0, false, false, 0, 0, false, false, false)) else (if bt154.2.1 > bt154.2.2.2.2.2.1 then (some (0, 0, false, false, 0, 0, false, false, false)) else (some (bt154.1, bt154.2.1, bt154.2.2.1, bt154.2.2.2.1, bt154.2.2.2.2.1, bt154.2.2.2.2.2.1, bt154.2.2.2.2.2.2.1, bt154.2.2.2.2.2.2.2, true)))))))))))

def spec_Meet.f (k : Nat) (a0_0 : Int) (a0_1 : Int) (a0_2 : Bool) (a0_3 : Bool) (a0_4 : Int) (a0_5 : Int) (a0_6 : Bool) (a0_7 : Bool) (a1_0 : Int) (a1_1 : Int) (a1_2 : Bool) (a1_3 : Bool) (a1_4 : Int) (a1_5 : Int) (a1_6 : Bool) (a1_7 : Bool) : Option (Int × Int × Bool × Bool × Int × Int × Bool × Bool × Bool) := (spec_GoodArea.f a0_0 a0_1 a0_2 a0_3 a0_4 a0_5 a0_6 a0_7).bind fun t132 => (if t132 = true then ((spec_GoodArea.f a1_0 a1_1 a1_2 a1_3 a1_4 a1_5 a1_6 a1_7).bind fun t133 => (spec_Meet.j0 k (!t133) a0_0 a0_1 a0_2 a0_3 a0_4 a0_5 a0_6 a0_7 a1_0 a1_1 a1_2 a1_3 a1_4 a1_5 a1_6 a1_7)) else (spec_Meet.j0 k true a0_0 a0_1 a0_2 a0_3 a0_4 a0_5 a0_6 a0_7 a1_0 a1_1 a1_2 a1_3 a1_4 a1_5 a1_6 a1_7))

theorem spec_Meet.mono_l : ∀ k, (∀ y0 y1 y2 y3 y4 y5 y6 y7 y8 y9 y10 y11 y12 y13 y14 y15 y16, LeO (spec_Meet.j0 k y0 y1 y2 y3 y4 y5 y6 y7 y8 y9 y10 y11 y12 y13 y14 y15 y16) (spec_Meet.j0 (k + 1) y0 y1 y2 y3 y4 y5 y6 y7 y8 y9 y10 y11 y12 y13 y14 y15 y16))
  | 0 => fun _ _ _ _ _ _ _ _ _ _ _ _ _ _ _ _ _ r h => by simp [spec_Meet.j0] at h
  | k + 1 => by
    have ih0 := spec_Meet.mono_l k
    · intro y0 y1 y2 y3 y4 y5 y6 y7 y8 y9 y10 y11 y12 y13 y14 y15 y16
      unfold spec_Meet.j0
      repeat' first
      | (with_reducible exact ih0 _ _ _ _ _ _ _ _ _ _ _ _ _ _ _ _ _)
      | (with_reducible exact LeO.refl _)
      | (with_reducible exact LeO.none _)
      | (with_reducible refine LeO.ite ?_ ?_)
      | (with_reducible refine LeO.bind ?_ (fun _ => ?_))
      | exact ih0 _ _ _ _ _ _ _ _ _ _ _ _ _ _ _ _ _
      | exact LeO.none _
      | refine LeO.ite ?_ ?_
      | refine LeO.bind ?_ (fun _ => ?_)

theorem spec_Meet.mono : ∀ a0 a1 a2 a3 a4 a5 a6 a7 a8 a9 a10 a11 a12 a13 a14 a15 k, LeO (spec_Meet.f k a0 a1 a2 a3 a4 a5 a6 a7 a8 a9 a10 a11 a12 a13 a14 a15) (spec_Meet.f (k + 1) a0 a1 a2 a3 a4 a5 a6 a7 a8 a9 a10 a11 a12 a13 a14 a15) := by
  intro a0 a1 a2 a3 a4 a5 a6 a7 a8 a9 a10 a11 a12 a13 a14 a15 k
  have ih0 := spec_Meet.mono_l k
  unfold spec_Meet.f
  repeat' first
      | (with_reducible exact ih0 _ _ _ _ _ _ _ _ _ _ _ _ _ _ _ _ _)
      | (with_reducible exact LeO.refl _)
      | (with_reducible exact LeO.none _)
      | (with_reducible refine LeO.ite ?_ ?_)
      | (with_reducible refine LeO.bind ?_ (fun _ => ?_))
      | exact ih0 _ _ _ _ _ _ _ _ _ _ _ _ _ _ _ _ _
      | exact LeO.none _
      | refine LeO.ite ?_ ?_
      | refine LeO.bind ?_ (fun _ => ?_)

def spec_Meet.T5 : Bool × List (List Nat × List Nat) := (true, [([], []), ([0], [0]), ([1], [1]), ([], []), ([3], [3]), ([4], [4]), ([2, 5], [2, 5]), ([], []), ([7], [7]), ([8], [8]), ([], []), ([10], [10]), ([11], [11]), ([9, 12, 6], [9, 12]), ([], []), ([14], [14]), ([15], [15]), ([], []), ([17], [17]), ([18], [18]), ([16, 19, 13], [16, 19]), ([], []), ([21], [21]), ([22], [22]), ([], []), ([24], [24]), ([25], [25]), ([23, 26, 20], [23, 26]), ([6, 13, 20, 27, 27], [6, 13, 20, 27]), ([], []), ([29, 28, 28, 0, 1, 2, 3, 4, 5, 6, 7, 8, 9, 10, 11, 12, 13, 14, 15, 16, 17, 18, 19, 20, 21, 22, 23, 24, 25, 26, 27, 28, 29], [28, 29])])

def spec_Meet.B5 : List Nat := [0, 1, 3, 0, 8, 24, 63, 0, 128, 384, 0, 1024, 3072, 8191, 0, 16384, 49152, 0, 131072, 393216, 1048575, 0, 2097152, 6291456, 0, 16777216, 50331648, 134217727, 268435455, 0, 1073741823]

theorem spec_Meet.tab5 : rtab .any (opsOf Try.f23 5) = spec_Meet.T5 := by kernel_rfl

theorem spec_Meet.bits5 : waitsOk spec_Meet.T5.2 spec_Meet.B5 = true := by kernel_rfl

theorem put8 {w : World} {p : Nat} {t : TypeId} {c0 c1 c2 c3 c4 c5 c6 c7 u0 u1 u2 u3 u4 u5 u6 u7 : Value} (h : w.heap[p]? = some (.cells #[c0, c1, c2, c3, c4, c5, c6, c7] t (0, 0))) :
    (((((((((w.setCell ⟨p, 0, none⟩ u0).setCell ⟨p, 1, none⟩ u1).setCell ⟨p, 2, none⟩ u2).setCell ⟨p, 3, none⟩ u3).setCell ⟨p, 4, none⟩ u4).setCell ⟨p, 5, none⟩ u5).setCell ⟨p, 6, none⟩ u6).setCell ⟨p, 7, none⟩ u7)).heap[p]? = some (.cells #[u0, u1, u2, u3, u4, u5, u6, u7] t (0, 0)) := by
  have h1 := blk_put h 0 u0 (cs' := #[u0, c1, c2, c3, c4, c5, c6, c7]) rfl
  have h2 := blk_put h1 1 u1 (cs' := #[u0, u1, c2, c3, c4, c5, c6, c7]) rfl
  have h3 := blk_put h2 2 u2 (cs' := #[u0, u1, u2, c3, c4, c5, c6, c7]) rfl
  have h4 := blk_put h3 3 u3 (cs' := #[u0, u1, u2, u3, c4, c5, c6, c7]) rfl
  have h5 := blk_put h4 4 u4 (cs' := #[u0, u1, u2, u3, u4, c5, c6, c7]) rfl
  have h6 := blk_put h5 5 u5 (cs' := #[u0, u1, u2, u3, u4, u5, c6, c7]) rfl
  have h7 := blk_put h6 6 u6 (cs' := #[u0, u1, u2, u3, u4, u5, u6, c7]) rfl
  have h8 := blk_put h7 7 u7 (cs' := #[u0, u1, u2, u3, u4, u5, u6, u7]) rfl
  exact h8
theorem far8 {w : World} {g p : Nat} {t : TypeId} {cs : Array Value} {u0 u1 u2 u3 u4 u5 u6 u7 : Value} (h : w.heap[g]? = some (.cells cs t (0, 0))) (hne : g ≠ p) :
    (((((((((w.setCell ⟨p, 0, none⟩ u0).setCell ⟨p, 1, none⟩ u1).setCell ⟨p, 2, none⟩ u2).setCell ⟨p, 3, none⟩ u3).setCell ⟨p, 4, none⟩ u4).setCell ⟨p, 5, none⟩ u5).setCell ⟨p, 6, none⟩ u6).setCell ⟨p, 7, none⟩ u7)).heap[g]? = some (.cells cs t (0, 0)) := (blk_far (blk_far (blk_far (blk_far (blk_far (blk_far (blk_far (blk_far h (p := ⟨p, 0, none⟩) hne _) (p := ⟨p, 1, none⟩) hne _) (p := ⟨p, 2, none⟩) hne _) (p := ⟨p, 3, none⟩) hne _) (p := ⟨p, 4, none⟩) hne _) (p := ⟨p, 5, none⟩) hne _) (p := ⟨p, 6, none⟩) hne _) (p := ⟨p, 7, none⟩) hne _)
theorem below_put8 {B : Nat} {a w : World} {p : Nat} {u0 u1 u2 u3 u4 u5 u6 u7 : Value} (h : Below B a w) (hg : B ≤ p) : Below B a (((((((((w.setCell ⟨p, 0, none⟩ u0).setCell ⟨p, 1, none⟩ u1).setCell ⟨p, 2, none⟩ u2).setCell ⟨p, 3, none⟩ u3).setCell ⟨p, 4, none⟩ u4).setCell ⟨p, 5, none⟩ u5).setCell ⟨p, 6, none⟩ u6).setCell ⟨p, 7, none⟩ u7)) := ((((((((((((((((h).setCell (p := ⟨p, 0, none⟩) hg _)).setCell (p := ⟨p, 1, none⟩) hg _)).setCell (p := ⟨p, 2, none⟩) hg _)).setCell (p := ⟨p, 3, none⟩) hg _)).setCell (p := ⟨p, 4, none⟩) hg _)).setCell (p := ⟨p, 5, none⟩) hg _)).setCell (p := ⟨p, 6, none⟩) hg _)).setCell (p := ⟨p, 7, none⟩) hg _)
theorem cell_far8 {w : World} {b j p : Nat} {v : Value} {u0 u1 u2 u3 u4 u5 u6 u7 : Value} (h : w.cell? ⟨b, j, none⟩ = some v) (hne : b ≠ p) :
    (((((((((w.setCell ⟨p, 0, none⟩ u0).setCell ⟨p, 1, none⟩ u1).setCell ⟨p, 2, none⟩ u2).setCell ⟨p, 3, none⟩ u3).setCell ⟨p, 4, none⟩ u4).setCell ⟨p, 5, none⟩ u5).setCell ⟨p, 6, none⟩ u6).setCell ⟨p, 7, none⟩ u7)).cell? ⟨b, j, none⟩ = some v := ((cell_far (a := ⟨b, j, none⟩) (p := ⟨p, 7, none⟩) hne _).trans ((cell_far (a := ⟨b, j, none⟩) (p := ⟨p, 6, none⟩) hne _).trans ((cell_far (a := ⟨b, j, none⟩) (p := ⟨p, 5, none⟩) hne _).trans ((cell_far (a := ⟨b, j, none⟩) (p := ⟨p, 4, none⟩) hne _).trans ((cell_far (a := ⟨b, j, none⟩) (p := ⟨p, 3, none⟩) hne _).trans ((cell_far (a := ⟨b, j, none⟩) (p := ⟨p, 2, none⟩) hne _).trans ((cell_far (a := ⟨b, j, none⟩) (p := ⟨p, 1, none⟩) hne _).trans ((cell_far (a := ⟨b, j, none⟩) (p := ⟨p, 0, none⟩) hne _).trans h))))))))
theorem cell_drew {W : World} {b i : Nat} {v : Value} (h : W.cell? ⟨b, i, none⟩ = some v) : W.drew.cell? ⟨b, i, none⟩ = some v := h
theorem alloc_drew {W : World} {o : Obj} {b i : Nat} {v : Value} (h : W.drew.cell? ⟨b, i, none⟩ = some v) : (W.alloc o).drew.cell? ⟨b, i, none⟩ = some v :=
  pw_cell_below (below_alloc (Below.refl W.heap.size W) o) (show W.cell? ⟨b, i, none⟩ = some v from h)
theorem alloc_swap {W : World} {o o' : Obj} {b i : Nat} {v : Value} (h : (W.alloc o).cell? ⟨b, i, none⟩ = some v) (hlt : b < W.heap.size) : (W.alloc o').cell? ⟨b, i, none⟩ = some v :=
  ((below_alloc (Below.refl W.heap.size W) o').cell (p := ⟨b, i, none⟩) hlt).trans (((below_alloc (Below.refl W.heap.size W) o).cell (p := ⟨b, i, none⟩) hlt).symm.trans h)
set_option maxHeartbeats 8000000 in
set_option maxRecDepth 100000 in
theorem spec_Meet.calls (k : Nat) (a0_0 : Int) (a0_1 : Int) (a0_2 : Bool) (a0_3 : Bool) (a0_4 : Int) (a0_5 : Int) (a0_6 : Bool) (a0_7 : Bool) (a1_0 : Int) (a1_1 : Int) (a1_2 : Bool) (a1_3 : Bool) (a1_4 : Int) (a1_5 : Int) (a1_6 : Bool) (a1_7 : Bool) (r1 : Int) (r2 : Int) (r3 : Bool) (r4 : Bool) (r5 : Int) (r6 : Int) (r7 : Bool) (r8 : Bool) (r9 : Bool) (w : World) (h : spec_Meet.f k a0_0 a0_1 a0_2 a0_3 a0_4 a0_5 a0_6 a0_7 a1_0 a1_1 a1_2 a1_3 a1_4 a1_5 a1_6 a1_7 = some (r1, r2, r3, r4, r5, r6, r7, r8, r9)) :
    Calls Try.prog 23 #[.agg #[.int .i64 a0_0, .int .i64 a0_1, .bool a0_2, .bool a0_3, .int .i64 a0_4, .int .i64 a0_5, .bool a0_6, .bool a0_7], .agg #[.int .i64 a1_0, .int .i64 a1_1, .bool a1_2, .bool a1_3, .int .i64 a1_4, .int .i64 a1_5, .bool a1_6, .bool a1_7]] w fun e w' => e = .returned (.tuple #[.agg #[.int .i64 r1, .int .i64 r2, .bool r3, .bool r4, .int .i64 r5, .int .i64 r6, .bool r7, .bool r8], .bool r9]) ∧ Below w.heap.size w w' := by
  have hb0 : Below w.heap.size w (((w.alloc (.cells #[.int .i64 a0_0, .int .i64 a0_1, .bool a0_2, .bool a0_3, .int .i64 a0_4, .int .i64 a0_5, .bool a0_6, .bool a0_7] 28)).alloc (.cells #[.int .i64 a1_0, .int .i64 a1_1, .bool a1_2, .bool a1_3, .int .i64 a1_4, .int .i64 a1_5, .bool a1_6, .bool a1_7] 28)).alloc (.cells #[.int .i64 0, .int .i64 0, .bool false, .bool false, .int .i64 0, .int .i64 0, .bool false, .bool false] 28)) := below_alloc (below_alloc (below_alloc (Below.refl _ _) _) _) _
  have hk0 := blk_alloc (blk_alloc (blk_new w (.cells #[.int .i64 a0_0, .int .i64 a0_1, .bool a0_2, .bool a0_3, .int .i64 a0_4, .int .i64 a0_5, .bool a0_6, .bool a0_7] 28)) (.cells #[.int .i64 a1_0, .int .i64 a1_1, .bool a1_2, .bool a1_3, .int .i64 a1_4, .int .i64 a1_5, .bool a1_6, .bool a1_7] 28)) (.cells #[.int .i64 0, .int .i64 0, .bool false, .bool false, .int .i64 0, .int .i64 0, .bool false, .bool false] 28)
  have hk1 := blk_alloc (blk_new (w.alloc (.cells #[.int .i64 a0_0, .int .i64 a0_1, .bool a0_2, .bool a0_3, .int .i64 a0_4, .int .i64 a0_5, .bool a0_6, .bool a0_7] 28)) (.cells #[.int .i64 a1_0, .int .i64 a1_1, .bool a1_2, .bool a1_3, .int .i64 a1_4, .int .i64 a1_5, .bool a1_6, .bool a1_7] 28)) (.cells #[.int .i64 0, .int .i64 0, .bool false, .bool false, .int .i64 0, .int .i64 0, .bool false, .bool false] 28)
  have hk2 := blk_new ((w.alloc (.cells #[.int .i64 a0_0, .int .i64 a0_1, .bool a0_2, .bool a0_3, .int .i64 a0_4, .int .i64 a0_5, .bool a0_6, .bool a0_7] 28)).alloc (.cells #[.int .i64 a1_0, .int .i64 a1_1, .bool a1_2, .bool a1_3, .int .i64 a1_4, .int .i64 a1_5, .bool a1_6, .bool a1_7] 28)) (.cells #[.int .i64 0, .int .i64 0, .bool false, .bool false, .int .i64 0, .int .i64 0, .bool false, .bool false] 28)
  simp only [World.size_alloc, Nat.add_assoc, Nat.reduceAdd] at hk1 hk2
  have HW := Lib.hid hb0; have HK0 := Lib.hid hk0; have HK1 := Lib.hid hk1; have HK2 := Lib.hid hk2; clear hb0 hk0 hk1 hk2
  unfold spec_Meet.f at h
  replace h := Option.bind_eq_some_iff.mp h
  obtain ⟨g, hg, h⟩ := h
  have HG := Lib.hid hg; clear hg
  cases g
  · cases k with
    | zero => simp [spec_Meet.j0] at h
    | succ k =>
      obtain ⟨rfl, rfl, rfl, rfl, rfl, rfl, rfl, rfl, rfl⟩ : 0 = r1 ∧ 0 = r2 ∧ false = r3 ∧ false = r4 ∧ 0 = r5 ∧ 0 = r6 ∧ false = r7 ∧ false = r8 ∧ false = r9 := by simpa [spec_Meet.j0] using h
      clear h
      go_enter Try.func23, Try.ntmps23
      go_wp2_with fail
      refine (spec_GoodArea.calls _ _ _ _ _ _ _ _ _ _ HG.out).mono ?_; rintro e w1 ⟨rfl, hd⟩
      have HK0n := Lib.hid (blk_below HK0.out hd); clear HK0; have HK0 := HK0n; clear HK0n
      have HK1n := Lib.hid (blk_below HK1.out hd); clear HK1; have HK1 := HK1n; clear HK1n
      have HK2n := Lib.hid (blk_below HK2.out hd); clear HK2; have HK2 := HK2n; clear HK2n
      have HWn := Lib.hid (below_step HW.out hd); clear HW; have HW := HWn; clear HWn; clear hd
      have q0 := blk_cell HK2.out 0; have q1 := blk_cell HK2.out 1; have q2 := blk_cell HK2.out 2; have q3 := blk_cell HK2.out 3; have q4 := blk_cell HK2.out 4; have q5 := blk_cell HK2.out 5; have q6 := blk_cell HK2.out 6; have q7 := blk_cell HK2.out 7
      simp only [List.getElem?_toArray, List.getElem?_cons_zero, List.getElem?_cons_succ] at q0 q1 q2 q3 q4 q5 q6 q7
      have fq0 := blk_frozen HK2.out 0; have fq1 := blk_frozen HK2.out 1; have fq2 := blk_frozen HK2.out 2; have fq3 := blk_frozen HK2.out 3; have fq4 := blk_frozen HK2.out 4; have fq5 := blk_frozen HK2.out 5; have fq6 := blk_frozen HK2.out 6; have fq7 := blk_frozen HK2.out 7
      go_wp2_with fail
      (try simp only [Exit.inBlock, Exit.then]); refine bodyPost_ret (results_ct rfl _ _ (w.heap.size + 2) 28 _ (0, 0) _ rfl (put8 HK2.out) Try.underlying28 rfl (by kernel_rfl)) rfl ?_
      exact ⟨rfl, below_put8 HW.out (by omega)⟩
  rw [if_pos rfl] at h
  replace h := Option.bind_eq_some_iff.mp h
  obtain ⟨g2, hg2, h⟩ := h
  have HG2 := Lib.hid hg2; clear hg2
  cases k with
  | zero => cases g2 <;> simp [spec_Meet.j0] at h
  | succ k =>
    cases g2
    · obtain ⟨rfl, rfl, rfl, rfl, rfl, rfl, rfl, rfl, rfl⟩ : 0 = r1 ∧ 0 = r2 ∧ false = r3 ∧ false = r4 ∧ 0 = r5 ∧ 0 = r6 ∧ false = r7 ∧ false = r8 ∧ false = r9 := by simpa [spec_Meet.j0] using h
      clear h
      go_enter Try.func23, Try.ntmps23
      go_wp2_with fail
      refine (spec_GoodArea.calls _ _ _ _ _ _ _ _ _ _ HG.out).mono ?_; rintro e w1 ⟨rfl, hd⟩
      have HK0n := Lib.hid (blk_below HK0.out hd); clear HK0; have HK0 := HK0n; clear HK0n
      have HK1n := Lib.hid (blk_below HK1.out hd); clear HK1; have HK1 := HK1n; clear HK1n
      have HK2n := Lib.hid (blk_below HK2.out hd); clear HK2; have HK2 := HK2n; clear HK2n
      have HWn := Lib.hid (below_step HW.out hd); clear HW; have HW := HWn; clear HWn; clear hd
      have y0 := blk_cell HK1.out 0; have y1 := blk_cell HK1.out 1; have y2 := blk_cell HK1.out 2; have y3 := blk_cell HK1.out 3; have y4 := blk_cell HK1.out 4; have y5 := blk_cell HK1.out 5; have y6 := blk_cell HK1.out 6; have y7 := blk_cell HK1.out 7
      simp only [List.getElem?_toArray, List.getElem?_cons_zero, List.getElem?_cons_succ] at y0 y1 y2 y3 y4 y5 y6 y7
      go_wp2_with fail
      refine (spec_GoodArea.calls _ _ _ _ _ _ _ _ _ _ HG2.out).mono ?_; rintro e w2 ⟨rfl, hd⟩
      have HK0n := Lib.hid (blk_below HK0.out hd); clear HK0; have HK0 := HK0n; clear HK0n
      have HK1n := Lib.hid (blk_below HK1.out hd); clear HK1; have HK1 := HK1n; clear HK1n
      have HK2n := Lib.hid (blk_below HK2.out hd); clear HK2; have HK2 := HK2n; clear HK2n
      have HWn := Lib.hid (below_step HW.out hd); clear HW; have HW := HWn; clear HWn; clear hd
      have q0 := blk_cell HK2.out 0; have q1 := blk_cell HK2.out 1; have q2 := blk_cell HK2.out 2; have q3 := blk_cell HK2.out 3; have q4 := blk_cell HK2.out 4; have q5 := blk_cell HK2.out 5; have q6 := blk_cell HK2.out 6; have q7 := blk_cell HK2.out 7
      simp only [List.getElem?_toArray, List.getElem?_cons_zero, List.getElem?_cons_succ] at q0 q1 q2 q3 q4 q5 q6 q7
      have fq0 := blk_frozen HK2.out 0; have fq1 := blk_frozen HK2.out 1; have fq2 := blk_frozen HK2.out 2; have fq3 := blk_frozen HK2.out 3; have fq4 := blk_frozen HK2.out 4; have fq5 := blk_frozen HK2.out 5; have fq6 := blk_frozen HK2.out 6; have fq7 := blk_frozen HK2.out 7
      go_wp2_with fail
      (try simp only [Exit.inBlock, Exit.then]); refine bodyPost_ret (results_ct rfl _ _ (w.heap.size + 2) 28 _ (0, 0) _ rfl (put8 HK2.out) Try.underlying28 rfl (by kernel_rfl)) rfl ?_
      exact ⟨rfl, below_put8 HW.out (by omega)⟩
    simp only [spec_Meet.j0, Bool.not_true, Bool.false_eq_true, if_false] at h
    replace h := Option.bind_eq_some_iff.mp h
    obtain ⟨⟨m0, m1, m2, m3, m4, m5, m6, m7⟩, h_, h⟩ := h
    have HN1 := Lib.hid h_; clear h_
    replace h := Option.bind_eq_some_iff.mp h
    obtain ⟨⟨n0, n1, n2, n3, n4, n5, n6, n7⟩, h_, h⟩ := h
    have HN2 := Lib.hid h_; clear h_
    replace h := Option.bind_eq_some_iff.mp h
    obtain ⟨x0, h_, h⟩ := h
    have HX0 := Lib.hid h_; clear h_
    replace h := Option.bind_eq_some_iff.mp h
    obtain ⟨x1, h_, h⟩ := h
    have HX1 := Lib.hid h_; clear h_
    replace h := Option.bind_eq_some_iff.mp h
    obtain ⟨x2, h_, h⟩ := h
    have HX2 := Lib.hid h_; clear h_
    replace h := Option.bind_eq_some_iff.mp h
    obtain ⟨x3, h_, h⟩ := h
    have HX3 := Lib.hid h_; clear h_
    replace h := Option.bind_eq_some_iff.mp h
    obtain ⟨⟨u0, u1, u2, u3, u4, u5, u6, u7⟩, h_, h⟩ := h
    have HAR := Lib.hid h_; clear h_
    dsimp only at h
    have HH := Lib.hid h; clear h
    go_enter Try.func23, Try.ntmps23
    go_wp2_with fail
    refine (spec_GoodArea.calls _ _ _ _ _ _ _ _ _ _ HG.out).mono ?_; rintro e w1 ⟨rfl, hd⟩
    have HK0n := Lib.hid (blk_below HK0.out hd); clear HK0; have HK0 := HK0n; clear HK0n
    have HK1n := Lib.hid (blk_below HK1.out hd); clear HK1; have HK1 := HK1n; clear HK1n
    have HK2n := Lib.hid (blk_below HK2.out hd); clear HK2; have HK2 := HK2n; clear HK2n
    have HWn := Lib.hid (below_step HW.out hd); clear HW; have HW := HWn; clear HWn; clear hd
    have y0 := blk_cell HK1.out 0; have y1 := blk_cell HK1.out 1; have y2 := blk_cell HK1.out 2; have y3 := blk_cell HK1.out 3; have y4 := blk_cell HK1.out 4; have y5 := blk_cell HK1.out 5; have y6 := blk_cell HK1.out 6; have y7 := blk_cell HK1.out 7
    simp only [List.getElem?_toArray, List.getElem?_cons_zero, List.getElem?_cons_succ] at y0 y1 y2 y3 y4 y5 y6 y7
    go_wp2_with fail
    refine (spec_GoodArea.calls _ _ _ _ _ _ _ _ _ _ HG2.out).mono ?_; rintro e w2 ⟨rfl, hd⟩
    clear y0 y1 y2 y3 y4 y5 y6 y7
    have HK0n := Lib.hid (blk_below HK0.out hd); clear HK0; have HK0 := HK0n; clear HK0n
    have HK1n := Lib.hid (blk_below HK1.out hd); clear HK1; have HK1 := HK1n; clear HK1n
    have HK2n := Lib.hid (blk_below HK2.out hd); clear HK2; have HK2 := HK2n; clear HK2n
    have HWn := Lib.hid (below_step HW.out hd); clear HW; have HW := HWn; clear HWn; clear hd
    have y0 := blk_cell HK0.out 0; have y1 := blk_cell HK0.out 1; have y2 := blk_cell HK0.out 2; have y3 := blk_cell HK0.out 3; have y4 := blk_cell HK0.out 4; have y5 := blk_cell HK0.out 5; have y6 := blk_cell HK0.out 6; have y7 := blk_cell HK0.out 7
    simp only [List.getElem?_toArray, List.getElem?_cons_zero, List.getElem?_cons_succ] at y0 y1 y2 y3 y4 y5 y6 y7
    go_wp2_with fail
    refine (spec_l3Normal.calls _ _ _ _ _ _ _ _ _ _ _ _ _ _ _ _ _ HN1.out).mono ?_; rintro e w3 ⟨rfl, hd⟩
    clear y0 y1 y2 y3 y4 y5 y6 y7
    have HK0n := Lib.hid (blk_below HK0.out hd); clear HK0; have HK0 := HK0n; clear HK0n
    have HK1n := Lib.hid (blk_below HK1.out hd); clear HK1; have HK1 := HK1n; clear HK1n
    have HK2n := Lib.hid (blk_below HK2.out hd); clear HK2; have HK2 := HK2n; clear HK2n
    have HWn := Lib.hid (below_step HW.out hd); clear HW; have HW := HWn; clear HWn; clear hd
    have y0 := blk_cell HK0.out 0; have y1 := blk_cell HK0.out 1; have y2 := blk_cell HK0.out 2; have y3 := blk_cell HK0.out 3; have y4 := blk_cell HK0.out 4; have y5 := blk_cell HK0.out 5; have y6 := blk_cell HK0.out 6; have y7 := blk_cell HK0.out 7
    simp only [List.getElem?_toArray, List.getElem?_cons_zero, List.getElem?_cons_succ] at y0 y1 y2 y3 y4 y5 y6 y7
    have fy0 := blk_frozen HK0.out 0; have fy1 := blk_frozen HK0.out 1; have fy2 := blk_frozen HK0.out 2; have fy3 := blk_frozen HK0.out 3; have fy4 := blk_frozen HK0.out 4; have fy5 := blk_frozen HK0.out 5; have fy6 := blk_frozen HK0.out 6; have fy7 := blk_frozen HK0.out 7
    have p0 := blk_cell HK1.out 0; have p1 := blk_cell HK1.out 1; have p2 := blk_cell HK1.out 2; have p3 := blk_cell HK1.out 3; have p4 := blk_cell HK1.out 4; have p5 := blk_cell HK1.out 5; have p6 := blk_cell HK1.out 6; have p7 := blk_cell HK1.out 7
    simp only [List.getElem?_toArray, List.getElem?_cons_zero, List.getElem?_cons_succ] at p0 p1 p2 p3 p4 p5 p6 p7
    go_wp2_with fail
    have h0_ := put8 (u0 := (.int .i64 m0)) (u1 := (.int .i64 m1)) (u2 := (.bool m2)) (u3 := (.bool m3)) (u4 := (.int .i64 m4)) (u5 := (.int .i64 m5)) (u6 := (.bool m6)) (u7 := (.bool m7)) HK0.out; have h1_ := far8 (p := w.heap.size) (u0 := (.int .i64 m0)) (u1 := (.int .i64 m1)) (u2 := (.bool m2)) (u3 := (.bool m3)) (u4 := (.int .i64 m4)) (u5 := (.int .i64 m5)) (u6 := (.bool m6)) (u7 := (.bool m7)) HK1.out (by omega); have h2_ := far8 (p := w.heap.size) (u0 := (.int .i64 m0)) (u1 := (.int .i64 m1)) (u2 := (.bool m2)) (u3 := (.bool m3)) (u4 := (.int .i64 m4)) (u5 := (.int .i64 m5)) (u6 := (.bool m6)) (u7 := (.bool m7)) HK2.out (by omega); have hw_ := below_put8 (p := w.heap.size) (u0 := (.int .i64 m0)) (u1 := (.int .i64 m1)) (u2 := (.bool m2)) (u3 := (.bool m3)) (u4 := (.int .i64 m4)) (u5 := (.int .i64 m5)) (u6 := (.bool m6)) (u7 := (.bool m7)) HW.out (Nat.le_refl _)
    refine (spec_l3Normal.calls _ _ _ _ _ _ _ _ _ _ _ _ _ _ _ _ _ HN2.out).mono ?_; rintro e w4 ⟨rfl, hd⟩
    clear HK0 HK1 HK2 HW y0 fy0 p0 y1 fy1 p1 y2 fy2 p2 y3 fy3 p3 y4 fy4 p4 y5 fy5 p5 y6 fy6 p6 y7 fy7 p7
    have HK0 := Lib.hid (blk_below h0_ hd); have HK1 := Lib.hid (blk_below h1_ hd); have HK2 := Lib.hid (blk_below h2_ hd); have HW := Lib.hid (below_step hw_ hd); clear h0_ h1_ h2_ hw_ hd
    have p0 := blk_cell HK1.out 0; have p1 := blk_cell HK1.out 1; have p2 := blk_cell HK1.out 2; have p3 := blk_cell HK1.out 3; have p4 := blk_cell HK1.out 4; have p5 := blk_cell HK1.out 5; have p6 := blk_cell HK1.out 6; have p7 := blk_cell HK1.out 7
    simp only [List.getElem?_toArray, List.getElem?_cons_zero, List.getElem?_cons_succ] at p0 p1 p2 p3 p4 p5 p6 p7
    have fp0 := blk_frozen HK1.out 0; have fp1 := blk_frozen HK1.out 1; have fp2 := blk_frozen HK1.out 2; have fp3 := blk_frozen HK1.out 3; have fp4 := blk_frozen HK1.out 4; have fp5 := blk_frozen HK1.out 5; have fp6 := blk_frozen HK1.out 6; have fp7 := blk_frozen HK1.out 7
    go_upto_region 6 with fail
    go_cut [6] (fun v6 wx => ∃ g : Nat, v6 = .pointer (some ⟨g, 0, none⟩) ∧ g ≠ w.heap.size + 2 ∧ Hid (wx.heap[g]? = some (.cells #[.int .i64 u0, .int .i64 u1, .bool u2, .bool u3, .int .i64 u4, .int .i64 u5, .bool u6, .bool u7] 28 (0, 0))) ∧ Hid (wx.heap[w.heap.size + 2]? = some (.cells #[.int .i64 0, .int .i64 0, .bool false, .bool false, .int .i64 0, .int .i64 0, .bool false, .bool false] 28 (0, 0))) ∧ Hid (Below w.heap.size w wx))
    case first =>
      have lt0_ := blk_lt HK0.out; have lt1_ := blk_lt HK1.out; have lt2_ := blk_lt HK2.out
      have h0_ := far8 (p := w.heap.size + 1) (u0 := (.int .i64 n0)) (u1 := (.int .i64 n1)) (u2 := (.bool n2)) (u3 := (.bool n3)) (u4 := (.int .i64 n4)) (u5 := (.int .i64 n5)) (u6 := (.bool n6)) (u7 := (.bool n7)) HK0.out (by omega); have h1_ := put8 (u0 := (.int .i64 n0)) (u1 := (.int .i64 n1)) (u2 := (.bool n2)) (u3 := (.bool n3)) (u4 := (.int .i64 n4)) (u5 := (.int .i64 n5)) (u6 := (.bool n6)) (u7 := (.bool n7)) HK1.out; have h2_ := far8 (p := w.heap.size + 1) (u0 := (.int .i64 n0)) (u1 := (.int .i64 n1)) (u2 := (.bool n2)) (u3 := (.bool n3)) (u4 := (.int .i64 n4)) (u5 := (.int .i64 n5)) (u6 := (.bool n6)) (u7 := (.bool n7)) HK2.out (by omega); have hw_ := below_put8 (p := w.heap.size + 1) (u0 := (.int .i64 n0)) (u1 := (.int .i64 n1)) (u2 := (.bool n2)) (u3 := (.bool n3)) (u4 := (.int .i64 n4)) (u5 := (.int .i64 n5)) (u6 := (.bool n6)) (u7 := (.bool n7)) HW.out (by omega)
      clear HK0 HK1 HK2 HW; have HK0 := Lib.hid h0_; have HK1 := Lib.hid h1_; have HK2 := Lib.hid h2_; have HW := Lib.hid hw_; clear h0_ h1_ h2_ hw_
      have y0_0 := blk_cell HK0.out 0; have y0_1 := blk_cell HK0.out 1; have y0_4 := blk_cell HK0.out 4; have y0_5 := blk_cell HK0.out 5; have y1_0 := blk_cell HK1.out 0; have y1_1 := blk_cell HK1.out 1; have y1_4 := blk_cell HK1.out 4; have y1_5 := blk_cell HK1.out 5
      simp only [List.getElem?_toArray, List.getElem?_cons_zero, List.getElem?_cons_succ] at y0_0 y0_1 y0_4 y0_5 y1_0 y1_1 y1_4 y1_5
      first | go_region_held3 (fun w' => w'.cell? ⟨w.heap.size, 0, none⟩ = some (.int .i64 m0) ∧ w'.cell? ⟨w.heap.size, 1, none⟩ = some (.int .i64 m1) ∧ w'.cell? ⟨w.heap.size, 4, none⟩ = some (.int .i64 m4) ∧ w'.cell? ⟨w.heap.size, 5, none⟩ = some (.int .i64 m5) ∧ w'.cell? ⟨w.heap.size + 1, 0, none⟩ = some (.int .i64 n0) ∧ w'.cell? ⟨w.heap.size + 1, 1, none⟩ = some (.int .i64 n1) ∧ w'.cell? ⟨w.heap.size + 1, 4, none⟩ = some (.int .i64 n4) ∧ w'.cell? ⟨w.heap.size + 1, 5, none⟩ = some (.int .i64 n5))
          (first | (go_split_ands; (repeat' apply And.intro) <;> (first | with_reducible assumption | (with_reducible exact cell_drew (by assumption)) | (with_reducible exact pw_cell_below (by assumption) (by assumption)) | (with_reducible exact pw_cell_below (below_alloc (Below.refl _ _) _) (by assumption)) | (with_reducible exact alloc_drew (by assumption)) | (with_reducible exact alloc_swap (by assumption) (by assumption)) | (with_reducible exact cell_far8 (by assumption) (Nat.ne_of_lt (by assumption))) | (simp; done))))
          (first | (go_at_call_of 72 (Value.int .i64 m0); (with_reducible refine (spec_l3Max.calls _ _ _ _ HX0.out).mono ?_); rintro e w' ⟨rfl, hd0⟩; have hb := hd0.below; clear hd0; (with_reducible first | (have HK0n := Lib.hid (blk_below HK0.out hb)) | (have HK0n := Lib.hid (blk_below (blk_drew HK0.out) hb)) | (have HK0n := Lib.hid (blk_below (blk_alloc HK0.out _) hb)) | (have HK0n := Lib.hid (blk_below (blk_drew (blk_alloc HK0.out _)) hb))); (with_reducible first | (have HK1n := Lib.hid (blk_below HK1.out hb)) | (have HK1n := Lib.hid (blk_below (blk_drew HK1.out) hb)) | (have HK1n := Lib.hid (blk_below (blk_alloc HK1.out _) hb)) | (have HK1n := Lib.hid (blk_below (blk_drew (blk_alloc HK1.out _)) hb))); (with_reducible first | (have HK2n := Lib.hid (blk_below HK2.out hb)) | (have HK2n := Lib.hid (blk_below (blk_drew HK2.out) hb)) | (have HK2n := Lib.hid (blk_below (blk_alloc HK2.out _) hb)) | (have HK2n := Lib.hid (blk_below (blk_drew (blk_alloc HK2.out _)) hb))); (with_reducible first | (have HZn := Lib.hid (blk_below HZ.out hb)) | (have HZn := Lib.hid (blk_below (blk_new _ (.cells #[.int .i64 0, .int .i64 0, .bool false, .bool false, .int .i64 0, .int .i64 0, .bool false, .bool false] 28)) hb)) | (have HZn := Lib.hid (blk_below (blk_drew (blk_new _ (.cells #[.int .i64 0, .int .i64 0, .bool false, .bool false, .int .i64 0, .int .i64 0, .bool false, .bool false] 28))) hb)) | (have HZn := True.intro)); (with_reducible first | (have HWn := Lib.hid (below_step HW.out hb)) | (have HWn := Lib.hid (below_step (below_drew1 HW.out) hb)) | (have HWn := Lib.hid (below_step (below_alloc HW.out _) hb)) | (have HWn := Lib.hid (below_step (below_drew1 (below_alloc HW.out _)) hb))); clear HK0; have HK0 := HK0n; clear HK0n; clear HK1; have HK1 := HK1n; clear HK1n; clear HK2; have HK2 := HK2n; clear HK2n; have lt0_ := blk_lt HK0.out; have lt1_ := blk_lt HK1.out; have lt2_ := blk_lt HK2.out; clear y0_0 y0_1 y0_4 y0_5 y1_0 y1_1 y1_4 y1_5; have y0_0 := blk_cell HK0.out 0; have y0_1 := blk_cell HK0.out 1; have y0_4 := blk_cell HK0.out 4; have y0_5 := blk_cell HK0.out 5; have y1_0 := blk_cell HK1.out 0; have y1_1 := blk_cell HK1.out 1; have y1_4 := blk_cell HK1.out 4; have y1_5 := blk_cell HK1.out 5; simp only [List.getElem?_toArray, List.getElem?_cons_zero, List.getElem?_cons_succ] at y0_0 y0_1 y0_4 y0_5 y1_0 y1_1 y1_4 y1_5; (try clear HZ); have HZ := HZn; clear HZn; (try (have hz_ := HZ.out; simp only [World.size_alloc, World.size_setCell] at hz_; clear HZ; have HZ := Lib.hid hz_; clear hz_)); clear HW; have HW := HWn; clear HWn; clear hb; (try clear z0 q0 z1 q1 z2 q2 z3 q3 z4 q4 z5 q5 z6 q6 z7 q7); (try (have z0 := blk_frozen HZ.out 0; have q0 := blk_cell HZ.out 0; have z1 := blk_frozen HZ.out 1; have q1 := blk_cell HZ.out 1; have z2 := blk_frozen HZ.out 2; have q2 := blk_cell HZ.out 2; have z3 := blk_frozen HZ.out 3; have q3 := blk_cell HZ.out 3; have z4 := blk_frozen HZ.out 4; have q4 := blk_cell HZ.out 4; have z5 := blk_frozen HZ.out 5; have q5 := blk_cell HZ.out 5; have z6 := blk_frozen HZ.out 6; have q6 := blk_cell HZ.out 6; have z7 := blk_frozen HZ.out 7; have q7 := blk_cell HZ.out 7; simp only [List.getElem?_toArray, List.getElem?_cons_zero, List.getElem?_cons_succ] at q0 q1 q2 q3 q4 q5 q6 q7; (try simp only [World.size_alloc, World.size_setCell] at z0 q0 z1 q1 z2 q2 z3 q3 z4 q4 z5 q5 z6 q6 z7 q7)))) | (go_at_call_of 72 (Value.int .i64 m1); (with_reducible refine (spec_l3Max.calls _ _ _ _ HX1.out).mono ?_); rintro e w' ⟨rfl, hd0⟩; have hb := hd0.below; clear hd0; (with_reducible first | (have HK0n := Lib.hid (blk_below HK0.out hb)) | (have HK0n := Lib.hid (blk_below (blk_drew HK0.out) hb)) | (have HK0n := Lib.hid (blk_below (blk_alloc HK0.out _) hb)) | (have HK0n := Lib.hid (blk_below (blk_drew (blk_alloc HK0.out _)) hb))); (with_reducible first | (have HK1n := Lib.hid (blk_below HK1.out hb)) | (have HK1n := Lib.hid (blk_below (blk_drew HK1.out) hb)) | (have HK1n := Lib.hid (blk_below (blk_alloc HK1.out _) hb)) | (have HK1n := Lib.hid (blk_below (blk_drew (blk_alloc HK1.out _)) hb))); (with_reducible first | (have HK2n := Lib.hid (blk_below HK2.out hb)) | (have HK2n := Lib.hid (blk_below (blk_drew HK2.out) hb)) | (have HK2n := Lib.hid (blk_below (blk_alloc HK2.out _) hb)) | (have HK2n := Lib.hid (blk_below (blk_drew (blk_alloc HK2.out _)) hb))); (with_reducible first | (have HZn := Lib.hid (blk_below HZ.out hb)) | (have HZn := Lib.hid (blk_below (blk_new _ (.cells #[.int .i64 0, .int .i64 0, .bool false, .bool false, .int .i64 0, .int .i64 0, .bool false, .bool false] 28)) hb)) | (have HZn := Lib.hid (blk_below (blk_drew (blk_new _ (.cells #[.int .i64 0, .int .i64 0, .bool false, .bool false, .int .i64 0, .int .i64 0, .bool false, .bool false] 28))) hb)) | (have HZn := True.intro)); (with_reducible first | (have HWn := Lib.hid (below_step HW.out hb)) | (have HWn := Lib.hid (below_step (below_drew1 HW.out) hb)) | (have HWn := Lib.hid (below_step (below_alloc HW.out _) hb)) | (have HWn := Lib.hid (below_step (below_drew1 (below_alloc HW.out _)) hb))); clear HK0; have HK0 := HK0n; clear HK0n; clear HK1; have HK1 := HK1n; clear HK1n; clear HK2; have HK2 := HK2n; clear HK2n; have lt0_ := blk_lt HK0.out; have lt1_ := blk_lt HK1.out; have lt2_ := blk_lt HK2.out; clear y0_0 y0_1 y0_4 y0_5 y1_0 y1_1 y1_4 y1_5; have y0_0 := blk_cell HK0.out 0; have y0_1 := blk_cell HK0.out 1; have y0_4 := blk_cell HK0.out 4; have y0_5 := blk_cell HK0.out 5; have y1_0 := blk_cell HK1.out 0; have y1_1 := blk_cell HK1.out 1; have y1_4 := blk_cell HK1.out 4; have y1_5 := blk_cell HK1.out 5; simp only [List.getElem?_toArray, List.getElem?_cons_zero, List.getElem?_cons_succ] at y0_0 y0_1 y0_4 y0_5 y1_0 y1_1 y1_4 y1_5; (try clear HZ); have HZ := HZn; clear HZn; (try (have hz_ := HZ.out; simp only [World.size_alloc, World.size_setCell] at hz_; clear HZ; have HZ := Lib.hid hz_; clear hz_)); clear HW; have HW := HWn; clear HWn; clear hb; (try clear z0 q0 z1 q1 z2 q2 z3 q3 z4 q4 z5 q5 z6 q6 z7 q7); (try (have z0 := blk_frozen HZ.out 0; have q0 := blk_cell HZ.out 0; have z1 := blk_frozen HZ.out 1; have q1 := blk_cell HZ.out 1; have z2 := blk_frozen HZ.out 2; have q2 := blk_cell HZ.out 2; have z3 := blk_frozen HZ.out 3; have q3 := blk_cell HZ.out 3; have z4 := blk_frozen HZ.out 4; have q4 := blk_cell HZ.out 4; have z5 := blk_frozen HZ.out 5; have q5 := blk_cell HZ.out 5; have z6 := blk_frozen HZ.out 6; have q6 := blk_cell HZ.out 6; have z7 := blk_frozen HZ.out 7; have q7 := blk_cell HZ.out 7; simp only [List.getElem?_toArray, List.getElem?_cons_zero, List.getElem?_cons_succ] at q0 q1 q2 q3 q4 q5 q6 q7; (try simp only [World.size_alloc, World.size_setCell] at z0 q0 z1 q1 z2 q2 z3 q3 z4 q4 z5 q5 z6 q6 z7 q7)))) | (go_at_call_of 73 (Value.int .i64 m4); (with_reducible refine (spec_l3Min.calls _ _ _ _ HX2.out).mono ?_); rintro e w' ⟨rfl, hd0⟩; have hb := hd0.below; clear hd0; (with_reducible first | (have HK0n := Lib.hid (blk_below HK0.out hb)) | (have HK0n := Lib.hid (blk_below (blk_drew HK0.out) hb)) | (have HK0n := Lib.hid (blk_below (blk_alloc HK0.out _) hb)) | (have HK0n := Lib.hid (blk_below (blk_drew (blk_alloc HK0.out _)) hb))); (with_reducible first | (have HK1n := Lib.hid (blk_below HK1.out hb)) | (have HK1n := Lib.hid (blk_below (blk_drew HK1.out) hb)) | (have HK1n := Lib.hid (blk_below (blk_alloc HK1.out _) hb)) | (have HK1n := Lib.hid (blk_below (blk_drew (blk_alloc HK1.out _)) hb))); (with_reducible first | (have HK2n := Lib.hid (blk_below HK2.out hb)) | (have HK2n := Lib.hid (blk_below (blk_drew HK2.out) hb)) | (have HK2n := Lib.hid (blk_below (blk_alloc HK2.out _) hb)) | (have HK2n := Lib.hid (blk_below (blk_drew (blk_alloc HK2.out _)) hb))); (with_reducible first | (have HZn := Lib.hid (blk_below HZ.out hb)) | (have HZn := Lib.hid (blk_below (blk_new _ (.cells #[.int .i64 0, .int .i64 0, .bool false, .bool false, .int .i64 0, .int .i64 0, .bool false, .bool false] 28)) hb)) | (have HZn := Lib.hid (blk_below (blk_drew (blk_new _ (.cells #[.int .i64 0, .int .i64 0, .bool false, .bool false, .int .i64 0, .int .i64 0, .bool false, .bool false] 28))) hb)) | (have HZn := True.intro)); (with_reducible first | (have HWn := Lib.hid (below_step HW.out hb)) | (have HWn := Lib.hid (below_step (below_drew1 HW.out) hb)) | (have HWn := Lib.hid (below_step (below_alloc HW.out _) hb)) | (have HWn := Lib.hid (below_step (below_drew1 (below_alloc HW.out _)) hb))); clear HK0; have HK0 := HK0n; clear HK0n; clear HK1; have HK1 := HK1n; clear HK1n; clear HK2; have HK2 := HK2n; clear HK2n; have lt0_ := blk_lt HK0.out; have lt1_ := blk_lt HK1.out; have lt2_ := blk_lt HK2.out; clear y0_0 y0_1 y0_4 y0_5 y1_0 y1_1 y1_4 y1_5; have y0_0 := blk_cell HK0.out 0; have y0_1 := blk_cell HK0.out 1; have y0_4 := blk_cell HK0.out 4; have y0_5 := blk_cell HK0.out 5; have y1_0 := blk_cell HK1.out 0; have y1_1 := blk_cell HK1.out 1; have y1_4 := blk_cell HK1.out 4; have y1_5 := blk_cell HK1.out 5; simp only [List.getElem?_toArray, List.getElem?_cons_zero, List.getElem?_cons_succ] at y0_0 y0_1 y0_4 y0_5 y1_0 y1_1 y1_4 y1_5; (try clear HZ); have HZ := HZn; clear HZn; (try (have hz_ := HZ.out; simp only [World.size_alloc, World.size_setCell] at hz_; clear HZ; have HZ := Lib.hid hz_; clear hz_)); clear HW; have HW := HWn; clear HWn; clear hb; (try clear z0 q0 z1 q1 z2 q2 z3 q3 z4 q4 z5 q5 z6 q6 z7 q7); (try (have z0 := blk_frozen HZ.out 0; have q0 := blk_cell HZ.out 0; have z1 := blk_frozen HZ.out 1; have q1 := blk_cell HZ.out 1; have z2 := blk_frozen HZ.out 2; have q2 := blk_cell HZ.out 2; have z3 := blk_frozen HZ.out 3; have q3 := blk_cell HZ.out 3; have z4 := blk_frozen HZ.out 4; have q4 := blk_cell HZ.out 4; have z5 := blk_frozen HZ.out 5; have q5 := blk_cell HZ.out 5; have z6 := blk_frozen HZ.out 6; have q6 := blk_cell HZ.out 6; have z7 := blk_frozen HZ.out 7; have q7 := blk_cell HZ.out 7; simp only [List.getElem?_toArray, List.getElem?_cons_zero, List.getElem?_cons_succ] at q0 q1 q2 q3 q4 q5 q6 q7; (try simp only [World.size_alloc, World.size_setCell] at z0 q0 z1 q1 z2 q2 z3 q3 z4 q4 z5 q5 z6 q6 z7 q7)))) | (go_at_call_of 73 (Value.int .i64 m5); (with_reducible refine (spec_l3Min.calls _ _ _ _ HX3.out).mono ?_); rintro e w' ⟨rfl, hd0⟩; have hb := hd0.below; clear hd0; (with_reducible first | (have HK0n := Lib.hid (blk_below HK0.out hb)) | (have HK0n := Lib.hid (blk_below (blk_drew HK0.out) hb)) | (have HK0n := Lib.hid (blk_below (blk_alloc HK0.out _) hb)) | (have HK0n := Lib.hid (blk_below (blk_drew (blk_alloc HK0.out _)) hb))); (with_reducible first | (have HK1n := Lib.hid (blk_below HK1.out hb)) | (have HK1n := Lib.hid (blk_below (blk_drew HK1.out) hb)) | (have HK1n := Lib.hid (blk_below (blk_alloc HK1.out _) hb)) | (have HK1n := Lib.hid (blk_below (blk_drew (blk_alloc HK1.out _)) hb))); (with_reducible first | (have HK2n := Lib.hid (blk_below HK2.out hb)) | (have HK2n := Lib.hid (blk_below (blk_drew HK2.out) hb)) | (have HK2n := Lib.hid (blk_below (blk_alloc HK2.out _) hb)) | (have HK2n := Lib.hid (blk_below (blk_drew (blk_alloc HK2.out _)) hb))); (with_reducible first | (have HZn := Lib.hid (blk_below HZ.out hb)) | (have HZn := Lib.hid (blk_below (blk_new _ (.cells #[.int .i64 0, .int .i64 0, .bool false, .bool false, .int .i64 0, .int .i64 0, .bool false, .bool false] 28)) hb)) | (have HZn := Lib.hid (blk_below (blk_drew (blk_new _ (.cells #[.int .i64 0, .int .i64 0, .bool false, .bool false, .int .i64 0, .int .i64 0, .bool false, .bool false] 28))) hb)) | (have HZn := True.intro)); (with_reducible first | (have HWn := Lib.hid (below_step HW.out hb)) | (have HWn := Lib.hid (below_step (below_drew1 HW.out) hb)) | (have HWn := Lib.hid (below_step (below_alloc HW.out _) hb)) | (have HWn := Lib.hid (below_step (below_drew1 (below_alloc HW.out _)) hb))); clear HK0; have HK0 := HK0n; clear HK0n; clear HK1; have HK1 := HK1n; clear HK1n; clear HK2; have HK2 := HK2n; clear HK2n; have lt0_ := blk_lt HK0.out; have lt1_ := blk_lt HK1.out; have lt2_ := blk_lt HK2.out; clear y0_0 y0_1 y0_4 y0_5 y1_0 y1_1 y1_4 y1_5; have y0_0 := blk_cell HK0.out 0; have y0_1 := blk_cell HK0.out 1; have y0_4 := blk_cell HK0.out 4; have y0_5 := blk_cell HK0.out 5; have y1_0 := blk_cell HK1.out 0; have y1_1 := blk_cell HK1.out 1; have y1_4 := blk_cell HK1.out 4; have y1_5 := blk_cell HK1.out 5; simp only [List.getElem?_toArray, List.getElem?_cons_zero, List.getElem?_cons_succ] at y0_0 y0_1 y0_4 y0_5 y1_0 y1_1 y1_4 y1_5; (try clear HZ); have HZ := HZn; clear HZn; (try (have hz_ := HZ.out; simp only [World.size_alloc, World.size_setCell] at hz_; clear HZ; have HZ := Lib.hid hz_; clear hz_)); clear HW; have HW := HWn; clear HWn; clear hb; (try clear z0 q0 z1 q1 z2 q2 z3 q3 z4 q4 z5 q5 z6 q6 z7 q7); (try (have z0 := blk_frozen HZ.out 0; have q0 := blk_cell HZ.out 0; have z1 := blk_frozen HZ.out 1; have q1 := blk_cell HZ.out 1; have z2 := blk_frozen HZ.out 2; have q2 := blk_cell HZ.out 2; have z3 := blk_frozen HZ.out 3; have q3 := blk_cell HZ.out 3; have z4 := blk_frozen HZ.out 4; have q4 := blk_cell HZ.out 4; have z5 := blk_frozen HZ.out 5; have q5 := blk_cell HZ.out 5; have z6 := blk_frozen HZ.out 6; have q6 := blk_cell HZ.out 6; have z7 := blk_frozen HZ.out 7; have q7 := blk_cell HZ.out 7; simp only [List.getElem?_toArray, List.getElem?_cons_zero, List.getElem?_cons_succ] at q0 q1 q2 q3 q4 q5 q6 q7; (try simp only [World.size_alloc, World.size_setCell] at z0 q0 z1 q1 z2 q2 z3 q3 z4 q4 z5 q5 z6 q6 z7 q7)))) | (go_at_call 71; (with_reducible refine (spec_l3Area.calls _ _ _ _ _ _ _ _ _ _ _ _ _ HAR.out).mono ?_); rintro e w' ⟨rfl, hb⟩; (with_reducible first | (have HK0n := Lib.hid (blk_below HK0.out hb)) | (have HK0n := Lib.hid (blk_below (blk_drew HK0.out) hb)) | (have HK0n := Lib.hid (blk_below (blk_alloc HK0.out _) hb)) | (have HK0n := Lib.hid (blk_below (blk_drew (blk_alloc HK0.out _)) hb))); (with_reducible first | (have HK1n := Lib.hid (blk_below HK1.out hb)) | (have HK1n := Lib.hid (blk_below (blk_drew HK1.out) hb)) | (have HK1n := Lib.hid (blk_below (blk_alloc HK1.out _) hb)) | (have HK1n := Lib.hid (blk_below (blk_drew (blk_alloc HK1.out _)) hb))); (with_reducible first | (have HK2n := Lib.hid (blk_below HK2.out hb)) | (have HK2n := Lib.hid (blk_below (blk_drew HK2.out) hb)) | (have HK2n := Lib.hid (blk_below (blk_alloc HK2.out _) hb)) | (have HK2n := Lib.hid (blk_below (blk_drew (blk_alloc HK2.out _)) hb))); (with_reducible first | (have HZn := Lib.hid (blk_below HZ.out hb)) | (have HZn := Lib.hid (blk_below (blk_new _ (.cells #[.int .i64 0, .int .i64 0, .bool false, .bool false, .int .i64 0, .int .i64 0, .bool false, .bool false] 28)) hb)) | (have HZn := Lib.hid (blk_below (blk_drew (blk_new _ (.cells #[.int .i64 0, .int .i64 0, .bool false, .bool false, .int .i64 0, .int .i64 0, .bool false, .bool false] 28))) hb)) | (have HZn := True.intro)); (with_reducible first | (have HWn := Lib.hid (below_step HW.out hb)) | (have HWn := Lib.hid (below_step (below_drew1 HW.out) hb)) | (have HWn := Lib.hid (below_step (below_alloc HW.out _) hb)) | (have HWn := Lib.hid (below_step (below_drew1 (below_alloc HW.out _)) hb))); clear HK0; have HK0 := HK0n; clear HK0n; clear HK1; have HK1 := HK1n; clear HK1n; clear HK2; have HK2 := HK2n; clear HK2n; have lt0_ := blk_lt HK0.out; have lt1_ := blk_lt HK1.out; have lt2_ := blk_lt HK2.out; clear y0_0 y0_1 y0_4 y0_5 y1_0 y1_1 y1_4 y1_5; have y0_0 := blk_cell HK0.out 0; have y0_1 := blk_cell HK0.out 1; have y0_4 := blk_cell HK0.out 4; have y0_5 := blk_cell HK0.out 5; have y1_0 := blk_cell HK1.out 0; have y1_1 := blk_cell HK1.out 1; have y1_4 := blk_cell HK1.out 4; have y1_5 := blk_cell HK1.out 5; simp only [List.getElem?_toArray, List.getElem?_cons_zero, List.getElem?_cons_succ] at y0_0 y0_1 y0_4 y0_5 y1_0 y1_1 y1_4 y1_5; (try clear HZ); have HZ := HZn; clear HZn; (try (have hz_ := HZ.out; simp only [World.size_alloc, World.size_setCell] at hz_; clear HZ; have HZ := Lib.hid hz_; clear hz_)); clear HW; have HW := HWn; clear HWn; clear hb; (try clear z0 q0 z1 q1 z2 q2 z3 q3 z4 q4 z5 q5 z6 q6 z7 q7); (try (have z0 := blk_frozen HZ.out 0; have q0 := blk_cell HZ.out 0; have z1 := blk_frozen HZ.out 1; have q1 := blk_cell HZ.out 1; have z2 := blk_frozen HZ.out 2; have q2 := blk_cell HZ.out 2; have z3 := blk_frozen HZ.out 3; have q3 := blk_cell HZ.out 3; have z4 := blk_frozen HZ.out 4; have q4 := blk_cell HZ.out 4; have z5 := blk_frozen HZ.out 5; have q5 := blk_cell HZ.out 5; have z6 := blk_frozen HZ.out 6; have q6 := blk_cell HZ.out 6; have z7 := blk_frozen HZ.out 7; have q7 := blk_cell HZ.out 7; simp only [List.getElem?_toArray, List.getElem?_cons_zero, List.getElem?_cons_succ] at q0 q1 q2 q3 q4 q5 q6 q7; (try simp only [World.size_alloc, World.size_setCell] at z0 q0 z1 q1 z2 q2 z3 q3 z4 q4 z5 q5 z6 q6 z7 q7))))) | fail
      all_goals
        go_wp2_with fail
        go_meet
        first
        | with_reducible exact ⟨_, rfl, Nat.ne_of_gt (by assumption), Lib.hid (blk_new _ _), Lib.hid (blk_alloc HK2.out _), Lib.hid (below_alloc HW.out _)⟩
        | with_reducible exact ⟨_, rfl, Nat.ne_of_gt (by assumption), Lib.hid (put8 HZ.out), Lib.hid (far8 HK2.out (Nat.ne_of_lt (by assumption))), Lib.hid (below_put8 HW.out (Nat.le_of_lt (by assumption)))⟩
    case rest =>
      obtain ⟨g, rfl, hne, HGm, HK2, HW⟩ := hcut
      have hne2 := hne.symm
      have p0 := blk_cell HGm.out 0; have p1 := blk_cell HGm.out 1; have p2 := blk_cell HGm.out 2; have p3 := blk_cell HGm.out 3; have p4 := blk_cell HGm.out 4; have p5 := blk_cell HGm.out 5; have p6 := blk_cell HGm.out 6; have p7 := blk_cell HGm.out 7
      simp only [List.getElem?_toArray, List.getElem?_cons_zero, List.getElem?_cons_succ] at p0 p1 p2 p3 p4 p5 p6 p7
      have q0 := blk_cell HK2.out 0; have q1 := blk_cell HK2.out 1; have q2 := blk_cell HK2.out 2; have q3 := blk_cell HK2.out 3; have q4 := blk_cell HK2.out 4; have q5 := blk_cell HK2.out 5; have q6 := blk_cell HK2.out 6; have q7 := blk_cell HK2.out 7
      simp only [List.getElem?_toArray, List.getElem?_cons_zero, List.getElem?_cons_succ] at q0 q1 q2 q3 q4 q5 q6 q7
      have fq0 := blk_frozen HK2.out 0; have fq1 := blk_frozen HK2.out 1; have fq2 := blk_frozen HK2.out 2; have fq3 := blk_frozen HK2.out 3; have fq4 := blk_frozen HK2.out 4; have fq5 := blk_frozen HK2.out 5; have fq6 := blk_frozen HK2.out 6; have fq7 := blk_frozen HK2.out 7
      have hh := HH.out
      by_cases c1 : u0 > u4
      · rw [if_pos c1] at hh; simp only [Option.some.injEq, Prod.mk.injEq] at hh; obtain ⟨rfl, rfl, rfl, rfl, rfl, rfl, rfl, rfl, rfl⟩ := hh
        have b1 : decide (u4 < u0) = true := decide_eq_true c1
        clear c1
        go_wp2_with fail
        (try simp only [Exit.inBlock, Exit.then]); refine bodyPost_ret (results_ct rfl _ _ (w.heap.size + 2) 28 _ (0, 0) _ rfl (put8 HK2.out) Try.underlying28 rfl (by kernel_rfl)) rfl ?_
        exact ⟨rfl, below_put8 HW.out (by omega)⟩
      rw [if_neg c1] at hh
      have b1 : decide (u4 < u0) = false := decide_eq_false c1
      by_cases c2 : u1 > u5
      · rw [if_pos c2] at hh; simp only [Option.some.injEq, Prod.mk.injEq] at hh; obtain ⟨rfl, rfl, rfl, rfl, rfl, rfl, rfl, rfl, rfl⟩ := hh
        have b2 : decide (u5 < u1) = true := decide_eq_true c2
        clear c1 c2
        go_wp2_with fail
        (try simp only [Exit.inBlock, Exit.then]); refine bodyPost_ret (results_ct rfl _ _ (w.heap.size + 2) 28 _ (0, 0) _ rfl (put8 HK2.out) Try.underlying28 rfl (by kernel_rfl)) rfl ?_
        exact ⟨rfl, below_put8 HW.out (by omega)⟩
      rw [if_neg c2] at hh; simp only [Option.some.injEq, Prod.mk.injEq] at hh; obtain ⟨rfl, rfl, rfl, rfl, rfl, rfl, rfl, rfl, rfl⟩ := hh
      have b2 : decide (u5 < u1) = false := decide_eq_false c2
      clear c1 c2
      go_wp2_with fail
      (try simp only [Exit.inBlock, Exit.then]); refine bodyPost_ret (results_ct rfl _ _ (w.heap.size + 2) 28 _ (0, 0) _ rfl (put8 HK2.out) Try.underlying28 rfl (by kernel_rfl)) rfl ?_
      exact ⟨rfl, below_put8 HW.out (by omega)⟩

/-! ### impl_Ref_place: function 91 -/

def impl_Ref_place.f (a0_0 : Int) (a0_1 : Int) (a0_2 : Bool) (a0_3 : Bool) : Option (Int × Int) := some (a0_0, a0_1)

set_option maxHeartbeats 8000000 in
set_option maxRecDepth 100000 in
theorem impl_Ref_place.calls (a0_0 : Int) (a0_1 : Int) (a0_2 : Bool) (a0_3 : Bool) (r1 : Int) (r2 : Int) (w : World) (h : impl_Ref_place.f a0_0 a0_1 a0_2 a0_3 = some (r1, r2)) :
    Calls Try.prog 91 #[.agg #[.int .i64 a0_0, .int .i64 a0_1, .bool a0_2, .bool a0_3]] w fun e w' => e = .returned (.agg #[.int .i64 r1, .int .i64 r2]) ∧ Below w.heap.size w w' := by
  have hu26 := Try.underlying26
  have hu109 := Try.underlying109
  have HB := Aside0.mk (Below.refl w.heap.size w)
  have H : (some (a0_0, a0_1)) = some (r1, r2) := h
  clear h
  simp only [Option.some.injEq, Prod.mk.injEq] at H
  obtain ⟨rfl, rfl⟩ := H
  go_enter Try.func91, Try.ntmps91
  go_wp2_with (first | ((with_reducible refine gate_dst (N := 1) rfl ?_); refine box_event ?hg (N := 1) ?hd (cs := #[.int .i64 a0_0, .int .i64 a0_1, .bool a0_2, .bool a0_3]) (t := 26) ?hr ?_; (case hd => rfl); (case hg => rfl); (case hr => first | (go_simp; done) | (go_simp; rfl)); intro gb163 hg w2 hbox hb; have n0_ := Aside0.mk (below_step (by repeat (first | (with_reducible first | exact HB.out | apply below_alloc | apply pw_below_drewN | apply below_drew1) | exact HB.out)) hb); have n1_ := Aside0.mk (hbox); have n2_ := Aside0.mk ((by rw [hg]; exact (below_size (by repeat (first | (with_reducible first | exact HB.out | apply below_alloc | apply pw_below_drewN | apply below_drew1) | exact HB.out))) : w.heap.size ≤ gb163)); have n3_ := Aside0.mk ((by rw [hg]; exact (below_size (by repeat (first | (with_reducible first | exact HB.out | apply below_alloc | apply pw_below_drewN | apply below_drew1) | exact HB.out))) : w.heap.size ≤ gb163)); clear HB; have HB := n0_; have BK163 := n1_; have GW163 := n2_; have GE163 := n3_; clear n0_ n1_ n2_ n3_; clear hb hbox hg) | ((with_reducible refine gate_dst (N := 2) rfl ?_); refine box_event ?hg (N := 2) ?hd (cs := #[.int .i64 0, .int .i64 0]) (t := 109) ?hr ?_; (case hd => rfl); (case hg => rfl); (case hr => first | (go_simp; done) | (go_simp; rfl)); intro gb164 hg w3 hbox hb; have n0_ := Aside0.mk (blk_below (g := gb163) (o := .cells #[.int .i64 a0_0, .int .i64 a0_1, .bool a0_2, .bool a0_3] 26 (0, 0)) (by (with_reducible repeat (first | refine blk_drewN ?_ _ | refine blk_drew ?_ | refine blk_alloc ?_ _)); exact BK163.out) hb); have n1_ := Aside0.mk (below_step (by repeat (first | (with_reducible first | exact HB.out | apply below_alloc | apply pw_below_drewN | apply below_drew1 | refine below_set ?_ GE163.out) | exact HB.out)) hb); have n2_ := Aside0.mk (hbox); have n3_ := Aside0.mk ((by rw [hg]; exact (below_size (by repeat (first | (with_reducible first | exact HB.out | apply below_alloc | apply pw_below_drewN | apply below_drew1 | refine below_set ?_ GE163.out) | exact HB.out))) : w.heap.size ≤ gb164)); have n4_ := Aside0.mk ((by rw [hg]; exact (below_size (by repeat (first | (with_reducible first | exact HB.out | apply below_alloc | apply pw_below_drewN | apply below_drew1 | refine below_set ?_ GE163.out) | exact HB.out))) : w.heap.size ≤ gb164)); have n5_ := Aside0.mk ((by rw [hg]; exact Nat.ne_of_lt (blk_lt (g := gb163) (o := .cells #[.int .i64 a0_0, .int .i64 a0_1, .bool a0_2, .bool a0_3] 26 (0, 0)) (by (with_reducible repeat (first | refine blk_drewN ?_ _ | refine blk_drew ?_ | refine blk_alloc ?_ _)); exact BK163.out)) : gb163 ≠ gb164)); have n6_ := Aside0.mk ((by rw [hg]; exact Nat.ne_of_gt (blk_lt (g := gb163) (o := .cells #[.int .i64 a0_0, .int .i64 a0_1, .bool a0_2, .bool a0_3] 26 (0, 0)) (by (with_reducible repeat (first | refine blk_drewN ?_ _ | refine blk_drew ?_ | refine blk_alloc ?_ _)); exact BK163.out)) : gb164 ≠ gb163)); clear BK163; clear HB; have BK163 := n0_; have HB := n1_; have BK164 := n2_; have GW164 := n3_; have GE164 := n4_; have NB163_164 := n5_; have NB164_163 := n6_; clear n0_ n1_ n2_ n3_ n4_ n5_ n6_; clear hb hbox hg; have hnb4 := NB163_164.out; have hnc4 := NB164_163.out; have hcz5_0 : w3.cell? ⟨gb163, 0, none⟩ = some (.int .i64 a0_0) := (blk_cell BK163.out 0).trans rfl; have hcz5_1 : w3.cell? ⟨gb163, 1, none⟩ = some (.int .i64 a0_1) := (blk_cell BK163.out 1).trans rfl; have hcz5_2 : w3.cell? ⟨gb163, 2, none⟩ = some (.bool a0_2) := (blk_cell BK163.out 2).trans rfl; have hcz5_3 : w3.cell? ⟨gb163, 3, none⟩ = some (.bool a0_3) := (blk_cell BK163.out 3).trans rfl; have hfz5_0 := blk_frozen BK163.out 0; have hfz5_1 := blk_frozen BK163.out 1; have hfz5_2 := blk_frozen BK163.out 2; have hfz5_3 := blk_frozen BK163.out 3; have hcz6_0 : w3.cell? ⟨gb164, 0, none⟩ = some (.int .i64 0) := (blk_cell BK164.out 0).trans rfl; have hcz6_1 : w3.cell? ⟨gb164, 1, none⟩ = some (.int .i64 0) := (blk_cell BK164.out 1).trans rfl; have hfz6_0 := blk_frozen BK164.out 0; have hfz6_1 := blk_frozen BK164.out 1))
  refine bodyPost_ret (results_cell_row rfl _ _ gb164 109 #[.int .i64 a0_0, .int .i64 a0_1] (0, 0) _ rfl (by (with_reducible repeat (first | refine blk_drewN ?_ _ | refine blk_drew ?_ | refine blk_alloc ?_ _)); refine blk_put (cs := #[.int .i64 a0_0, .int .i64 0]) ?_ 1 _ rfl; (with_reducible repeat (first | refine blk_drewN ?_ _ | refine blk_drew ?_ | refine blk_alloc ?_ _)); refine blk_put (cs := #[.int .i64 0, .int .i64 0]) ?_ 0 _ rfl; (with_reducible repeat (first | refine blk_drewN ?_ _ | refine blk_drew ?_ | refine blk_alloc ?_ _)); exact BK164.out) Try.underlying109 rfl (by kernel_rfl)) rfl ?_
  exact ⟨by first | rfl | (simp [errW_none, errW_some] <;> rfl) | (simp [*, errW_none, errW_some] <;> rfl), by repeat (first | (with_reducible first | exact HB.out | apply below_alloc | apply pw_below_drewN | apply below_drew1 | refine below_set ?_ GE163.out | refine below_set ?_ GE164.out) | exact HB.out)⟩



/-! ### impl_place_good: function 128 -/

def impl_place_good.f (a0_0 : Int) (a0_1 : Int) : Option (Bool) := if a0_0 ≥ 1 then (if a0_0 ≤ 1000 then (if a0_1 ≥ 1 then (some (decide (a0_1 ≤ 200))) else (some false)) else (some false)) else (some false)

set_option maxHeartbeats 8000000 in
set_option maxRecDepth 100000 in
theorem impl_place_good.calls (a0_0 : Int) (a0_1 : Int) (r : Bool) (w : World) (h : impl_place_good.f a0_0 a0_1 = some r) :
    Calls Try.prog 128 #[.agg #[.int .i64 a0_0, .int .i64 a0_1]] w fun e w' => e = .returned (.bool r) ∧ Below w.heap.size w w' := by
  have hu109 := Try.underlying109
  have HB := Aside0.mk (Below.refl w.heap.size w)
  have H : (if a0_0 ≥ 1 then (if a0_0 ≤ 1000 then (if a0_1 ≥ 1 then (some (decide (a0_1 ≤ 200))) else (some false)) else (some false)) else (some false)) = some r := h
  clear h
  by_cases c2 : a0_0 ≥ 1
  · rw [if_pos c2] at H
    have c2b0 : decide (1 ≤ a0_0) = true := decide_eq_true c2
    clear c2
    by_cases c3 : a0_0 ≤ 1000
    · rw [if_pos c3] at H
      have c3b0 : decide (a0_0 ≤ 1000) = true := decide_eq_true c3
      clear c3
      by_cases c4 : a0_1 ≥ 1
      · rw [if_pos c4] at H
        have c4b0 : decide (1 ≤ a0_1) = true := decide_eq_true c4
        clear c4
        obtain rfl := Option.some.inj H
        go_enter Try.func128, Try.ntmps128
        go_wp2_with (first | ((with_reducible refine gate_dst (N := 1) rfl ?_); refine box_event ?hg (N := 1) ?hd (cs := #[.int .i64 a0_0, .int .i64 a0_1]) (t := 109) ?hr ?_; (case hd => rfl); (case hg => rfl); (case hr => first | (go_simp; done) | (go_simp; rfl)); intro gb165 hg w5 hbox hb; have n0_ := Aside0.mk (below_step (by repeat (first | (with_reducible first | exact HB.out | apply below_alloc | apply pw_below_drewN | apply below_drew1) | exact HB.out)) hb); have n1_ := Aside0.mk (hbox); have n2_ := Aside0.mk ((by rw [hg]; exact (below_size (by repeat (first | (with_reducible first | exact HB.out | apply below_alloc | apply pw_below_drewN | apply below_drew1) | exact HB.out))) : w.heap.size ≤ gb165)); have n3_ := Aside0.mk ((by rw [hg]; exact (below_size (by repeat (first | (with_reducible first | exact HB.out | apply below_alloc | apply pw_below_drewN | apply below_drew1) | exact HB.out))) : w.heap.size ≤ gb165)); clear HB; have HB := n0_; have BK165 := n1_; have GW165 := n2_; have GE165 := n3_; clear n0_ n1_ n2_ n3_; clear hb hbox hg; have hcz6_0 : w5.cell? ⟨gb165, 0, none⟩ = some (.int .i64 a0_0) := (blk_cell BK165.out 0).trans rfl; have hcz6_1 : w5.cell? ⟨gb165, 1, none⟩ = some (.int .i64 a0_1) := (blk_cell BK165.out 1).trans rfl; have hfz6_0 := blk_frozen BK165.out 0; have hfz6_1 := blk_frozen BK165.out 1))
        go_ret
        exact ⟨by first | rfl | (simp [errW_none, errW_some] <;> rfl) | (simp [*, errW_none, errW_some] <;> rfl), by repeat (first | (with_reducible first | exact HB.out | apply below_alloc | apply pw_below_drewN | apply below_drew1 | refine below_set ?_ GE165.out) | exact HB.out)⟩
      · rw [if_neg c4] at H
        have c4b0 : decide (1 ≤ a0_1) = false := decide_eq_false c4
        clear c4
        obtain rfl := Option.some.inj H
        go_enter Try.func128, Try.ntmps128
        go_wp2_with (first | ((with_reducible refine gate_dst (N := 1) rfl ?_); refine box_event ?hg (N := 1) ?hd (cs := #[.int .i64 a0_0, .int .i64 a0_1]) (t := 109) ?hr ?_; (case hd => rfl); (case hg => rfl); (case hr => first | (go_simp; done) | (go_simp; rfl)); intro gb165 hg w7 hbox hb; have n0_ := Aside0.mk (below_step (by repeat (first | (with_reducible first | exact HB.out | apply below_alloc | apply pw_below_drewN | apply below_drew1) | exact HB.out)) hb); have n1_ := Aside0.mk (hbox); have n2_ := Aside0.mk ((by rw [hg]; exact (below_size (by repeat (first | (with_reducible first | exact HB.out | apply below_alloc | apply pw_below_drewN | apply below_drew1) | exact HB.out))) : w.heap.size ≤ gb165)); have n3_ := Aside0.mk ((by rw [hg]; exact (below_size (by repeat (first | (with_reducible first | exact HB.out | apply below_alloc | apply pw_below_drewN | apply below_drew1) | exact HB.out))) : w.heap.size ≤ gb165)); clear HB; have HB := n0_; have BK165 := n1_; have GW165 := n2_; have GE165 := n3_; clear n0_ n1_ n2_ n3_; clear hb hbox hg; have hcz8_0 : w7.cell? ⟨gb165, 0, none⟩ = some (.int .i64 a0_0) := (blk_cell BK165.out 0).trans rfl; have hcz8_1 : w7.cell? ⟨gb165, 1, none⟩ = some (.int .i64 a0_1) := (blk_cell BK165.out 1).trans rfl; have hfz8_0 := blk_frozen BK165.out 0; have hfz8_1 := blk_frozen BK165.out 1))
        go_ret
        exact ⟨by first | rfl | (simp [errW_none, errW_some] <;> rfl) | (simp [*, errW_none, errW_some] <;> rfl), by repeat (first | (with_reducible first | exact HB.out | apply below_alloc | apply pw_below_drewN | apply below_drew1 | refine below_set ?_ GE165.out) | exact HB.out)⟩
    · rw [if_neg c3] at H
      have c3b0 : decide (a0_0 ≤ 1000) = false := decide_eq_false c3
      clear c3
      obtain rfl := Option.some.inj H
      go_enter Try.func128, Try.ntmps128
      go_wp2_with (first | ((with_reducible refine gate_dst (N := 1) rfl ?_); refine box_event ?hg (N := 1) ?hd (cs := #[.int .i64 a0_0, .int .i64 a0_1]) (t := 109) ?hr ?_; (case hd => rfl); (case hg => rfl); (case hr => first | (go_simp; done) | (go_simp; rfl)); intro gb165 hg w9 hbox hb; have n0_ := Aside0.mk (below_step (by repeat (first | (with_reducible first | exact HB.out | apply below_alloc | apply pw_below_drewN | apply below_drew1) | exact HB.out)) hb); have n1_ := Aside0.mk (hbox); have n2_ := Aside0.mk ((by rw [hg]; exact (below_size (by repeat (first | (with_reducible first | exact HB.out | apply below_alloc | apply pw_below_drewN | apply below_drew1) | exact HB.out))) : w.heap.size ≤ gb165)); have n3_ := Aside0.mk ((by rw [hg]; exact (below_size (by repeat (first | (with_reducible first | exact HB.out | apply below_alloc | apply pw_below_drewN | apply below_drew1) | exact HB.out))) : w.heap.size ≤ gb165)); clear HB; have HB := n0_; have BK165 := n1_; have GW165 := n2_; have GE165 := n3_; clear n0_ n1_ n2_ n3_; clear hb hbox hg; have hcz10_0 : w9.cell? ⟨gb165, 0, none⟩ = some (.int .i64 a0_0) := (blk_cell BK165.out 0).trans rfl; have hcz10_1 : w9.cell? ⟨gb165, 1, none⟩ = some (.int .i64 a0_1) := (blk_cell BK165.out 1).trans rfl; have hfz10_0 := blk_frozen BK165.out 0; have hfz10_1 := blk_frozen BK165.out 1))
      go_ret
      exact ⟨by first | rfl | (simp [errW_none, errW_some] <;> rfl) | (simp [*, errW_none, errW_some] <;> rfl), by repeat (first | (with_reducible first | exact HB.out | apply below_alloc | apply pw_below_drewN | apply below_drew1 | refine below_set ?_ GE165.out) | exact HB.out)⟩
  · rw [if_neg c2] at H
    have c2b0 : decide (1 ≤ a0_0) = false := decide_eq_false c2
    clear c2
    obtain rfl := Option.some.inj H
    go_enter Try.func128, Try.ntmps128
    go_wp2_with (first | ((with_reducible refine gate_dst (N := 1) rfl ?_); refine box_event ?hg (N := 1) ?hd (cs := #[.int .i64 a0_0, .int .i64 a0_1]) (t := 109) ?hr ?_; (case hd => rfl); (case hg => rfl); (case hr => first | (go_simp; done) | (go_simp; rfl)); intro gb165 hg w11 hbox hb; have n0_ := Aside0.mk (below_step (by repeat (first | (with_reducible first | exact HB.out | apply below_alloc | apply pw_below_drewN | apply below_drew1) | exact HB.out)) hb); have n1_ := Aside0.mk (hbox); have n2_ := Aside0.mk ((by rw [hg]; exact (below_size (by repeat (first | (with_reducible first | exact HB.out | apply below_alloc | apply pw_below_drewN | apply below_drew1) | exact HB.out))) : w.heap.size ≤ gb165)); have n3_ := Aside0.mk ((by rw [hg]; exact (below_size (by repeat (first | (with_reducible first | exact HB.out | apply below_alloc | apply pw_below_drewN | apply below_drew1) | exact HB.out))) : w.heap.size ≤ gb165)); clear HB; have HB := n0_; have BK165 := n1_; have GW165 := n2_; have GE165 := n3_; clear n0_ n1_ n2_ n3_; clear hb hbox hg; have hcz12_0 : w11.cell? ⟨gb165, 0, none⟩ = some (.int .i64 a0_0) := (blk_cell BK165.out 0).trans rfl; have hcz12_1 : w11.cell? ⟨gb165, 1, none⟩ = some (.int .i64 a0_1) := (blk_cell BK165.out 1).trans rfl; have hfz12_0 := blk_frozen BK165.out 0; have hfz12_1 := blk_frozen BK165.out 1))
    go_ret
    exact ⟨by first | rfl | (simp [errW_none, errW_some] <;> rfl) | (simp [*, errW_none, errW_some] <;> rfl), by repeat (first | (with_reducible first | exact HB.out | apply below_alloc | apply pw_below_drewN | apply below_drew1 | refine below_set ?_ GE165.out) | exact HB.out)⟩



/-! ### impl_GoodRef: function 81 -/

def impl_GoodRef.f (a0_0 : Int) (a0_1 : Int) (a0_2 : Bool) (a0_3 : Bool) : Option (Bool) := (impl_Ref_place.f a0_0 a0_1 a0_2 a0_3).bind fun bt167 => ((impl_place_good.f bt167.1 bt167.2).bind fun t169 => (some t169))

set_option maxHeartbeats 8000000 in
set_option maxRecDepth 100000 in
theorem impl_GoodRef.calls (a0_0 : Int) (a0_1 : Int) (a0_2 : Bool) (a0_3 : Bool) (r : Bool) (w : World) (h : impl_GoodRef.f a0_0 a0_1 a0_2 a0_3 = some r) :
    Calls Try.prog 81 #[.agg #[.int .i64 a0_0, .int .i64 a0_1, .bool a0_2, .bool a0_3]] w fun e w' => e = .returned (.bool r) ∧ Below w.heap.size w w' := by
  have hu26 := Try.underlying26
  have HB := Aside0.mk (Below.refl w.heap.size w)
  have H : ((impl_Ref_place.f a0_0 a0_1 a0_2 a0_3).bind fun bt167 => ((impl_place_good.f bt167.1 bt167.2).bind fun t169 => (some t169))) = some r := h
  clear h
  replace H := Option.bind_eq_some_iff.mp H
  obtain ⟨⟨t167, t168⟩, A20, H⟩ := H
  replace H : ((impl_place_good.f t167 t168).bind fun t169 => (some t169)) = some r := H
  have A2 := Aside0.mk A20
  clear A20
  replace H := Option.bind_eq_some_iff.mp H
  obtain ⟨t169, A30, H⟩ := H
  replace H : (some t169) = some r := H
  have A3 := Aside0.mk A30
  clear A30
  obtain rfl := Option.some.inj H
  go_enter Try.func81, Try.ntmps81
  go_wp2_with (first | ((with_reducible refine gate_dst (N := 1) rfl ?_); refine box_event ?hg (N := 1) ?hd (cs := #[.int .i64 a0_0, .int .i64 a0_1, .bool a0_2, .bool a0_3]) (t := 26) ?hr ?_; (case hd => rfl); (case hg => rfl); (case hr => first | (go_simp; done) | (go_simp; rfl)); intro gb166 hg w4 hbox hb; have n0_ := Aside0.mk (below_step (by repeat (first | (with_reducible first | exact HB.out | apply below_alloc | apply pw_below_drewN | apply below_drew1) | exact HB.out)) hb); have n1_ := Aside0.mk (hbox); have n2_ := Aside0.mk ((by rw [hg]; exact (below_size (by repeat (first | (with_reducible first | exact HB.out | apply below_alloc | apply pw_below_drewN | apply below_drew1) | exact HB.out))) : w.heap.size ≤ gb166)); have n3_ := Aside0.mk ((by rw [hg]; exact (below_size (by repeat (first | (with_reducible first | exact HB.out | apply below_alloc | apply pw_below_drewN | apply below_drew1) | exact HB.out))) : w.heap.size ≤ gb166)); clear HB; have HB := n0_; have BK166 := n1_; have GW166 := n2_; have GE166 := n3_; clear n0_ n1_ n2_ n3_; clear hb hbox hg; have hcz5_0 : w4.cell? ⟨gb166, 0, none⟩ = some (.int .i64 a0_0) := (blk_cell BK166.out 0).trans rfl; have hcz5_1 : w4.cell? ⟨gb166, 1, none⟩ = some (.int .i64 a0_1) := (blk_cell BK166.out 1).trans rfl; have hcz5_2 : w4.cell? ⟨gb166, 2, none⟩ = some (.bool a0_2) := (blk_cell BK166.out 2).trans rfl; have hcz5_3 : w4.cell? ⟨gb166, 3, none⟩ = some (.bool a0_3) := (blk_cell BK166.out 3).trans rfl; have hfz5_0 := blk_frozen BK166.out 0; have hfz5_1 := blk_frozen BK166.out 1; have hfz5_2 := blk_frozen BK166.out 2; have hfz5_3 := blk_frozen BK166.out 3) | ((with_reducible refine gate_callee (f := 91) rfl ?_); refine goesL_ (some 4) rfl rfl Try.func91 (by kernel_rfl) rfl #[.agg #[.int .i64 a0_0, .int .i64 a0_1, .bool a0_2, .bool a0_3]] rfl (by (try simp only [List.map_toArray, List.map_cons, List.map_nil]); first | done | rfl | (simp only [List.length_drop, List.length_take]; rfl)) ?_; (with_reducible refine (impl_Ref_place.calls a0_0 a0_1 a0_2 a0_3 t167 t168 _ A2.out).mono ?_); rintro e w6 ⟨rfl, hb⟩; refine ⟨_, rfl, ?_⟩; have n0_ := Aside0.mk (blk_below (g := gb166) (o := .cells #[.int .i64 a0_0, .int .i64 a0_1, .bool a0_2, .bool a0_3] 26 (0, 0)) (by (with_reducible repeat (first | refine blk_drewN ?_ _ | refine blk_drew ?_ | refine blk_alloc ?_ _)); exact BK166.out) hb); have n1_ := Aside0.mk (below_step (by repeat (first | (with_reducible first | exact HB.out | apply below_alloc | apply pw_below_drewN | apply below_drew1 | refine below_set ?_ GE166.out) | exact HB.out)) hb); clear BK166; clear HB; have BK166 := n0_; have HB := n1_; clear n0_ n1_; (try clear hb); (try clear hb2); (try clear hk); (try clear hi)) | ((with_reducible refine gate_callee (f := 128) rfl ?_); refine goesL_ (some 5) rfl rfl Try.func128 (by kernel_rfl) rfl #[.agg #[.int .i64 t167, .int .i64 t168]] rfl (by (try simp only [List.map_toArray, List.map_cons, List.map_nil]); first | done | rfl | (simp only [List.length_drop, List.length_take]; rfl)) ?_; (with_reducible refine (impl_place_good.calls t167 t168 t169 _ A3.out).mono ?_); rintro e w7 ⟨rfl, hb⟩; refine ⟨_, rfl, ?_⟩; have n0_ := Aside0.mk (blk_below (g := gb166) (o := .cells #[.int .i64 a0_0, .int .i64 a0_1, .bool a0_2, .bool a0_3] 26 (0, 0)) (by (with_reducible repeat (first | refine blk_drewN ?_ _ | refine blk_drew ?_ | refine blk_alloc ?_ _)); exact BK166.out) hb); have n1_ := Aside0.mk (below_step (by repeat (first | (with_reducible first | exact HB.out | apply below_alloc | apply pw_below_drewN | apply below_drew1 | refine below_set ?_ GE166.out) | exact HB.out)) hb); clear BK166; clear HB; have BK166 := n0_; have HB := n1_; clear n0_ n1_; (try clear hb); (try clear hb2); (try clear hk); (try clear hi)))
  go_ret
  exact ⟨by first | rfl | (simp [errW_none, errW_some] <;> rfl) | (simp [*, errW_none, errW_some] <;> rfl), by repeat (first | (with_reducible first | exact HB.out | apply below_alloc | apply pw_below_drewN | apply below_drew1 | refine below_set ?_ GE166.out) | exact HB.out)⟩



/-! ### impl_GoodArea: function 66 -/

def impl_GoodArea.f (a0_0 : Int) (a0_1 : Int) (a0_2 : Bool) (a0_3 : Bool) (a0_4 : Int) (a0_5 : Int) (a0_6 : Bool) (a0_7 : Bool) : Option (Bool) := (impl_GoodRef.f a0_0 a0_1 a0_2 a0_3).bind fun t171 => (if t171 = true then ((impl_GoodRef.f a0_4 a0_5 a0_6 a0_7).bind fun t172 => (some t172)) else (some false))

end Go.Proofs.Ytaclplimbnihkaa.PFnExactMeet
