/- Functions of the program as Lean functions, and proofs that the Go code comes to their answers: for the law FnExactGoodPivot; made out of the print by a program of mine (compact.py). No conditions but each theorem's own. -/
import Derived.Test.YtjemnnndifeagaaDoorMFnExactGoodPivota0
import Derived.Test.YtjemnnndifeagaaDoorMFnExactGoodPivota4
namespace Go.Proofs.YtjemnnndifeagaaDoor.PFnExactGoodPivot
open Go.RowKit Go.Proofs.YtjemnnndifeagaaDoorW.PrintWords Go.Proofs.YtjemnnndifeagaaDoorW.PrintLast Go.Proofs.YtjemnnndifeagaaDoorW.PrintMore
attribute [local go_sem] max2_int min2_int max_two min_two max_three min_three max_four min_four   -- for this text's walks alone
set_option linter.unusedVariables false
set_option linter.unusedSimpArgs false

attribute [local go_sem high] eqA65 eqA81
set_option maxHeartbeats 8000000 in
set_option maxRecDepth 100000 in
theorem laws_toPivot.calls (k : Nat) (A0_0 : Option Addr) (c0_0 : Nat) (l0_0 : List Int) (A0_1 : Option Addr) (c0_1 : Nat) (l0_1 : List Int) (A0_2 : Option Addr) (c0_2 : Nat) (l0_2 : List (S136)) (a0_3 : Bool) (r1 : List Int) (r2 : List Int) (r3 : List (S90)) (r4 : Bool) (w : World) (hr0_0 : Kd.C (Kd.int .i64) w A0_0 l0_0.length l0_0) (hc0_0 : l0_0.length ≤ c0_0) (hr0_1 : Kd.C (Kd.int .i64) w A0_1 l0_1.length l0_1) (hc0_1 : l0_1.length ≤ c0_1) (hr0_2 : Kd.C k136 w A0_2 l0_2.length l0_2) (hc0_2 : l0_2.length ≤ c0_2) (h : laws_toPivot.f k l0_0 l0_1 l0_2 a0_3 = some (r1, r2, r3, r4)) :
    Calls Tryd.prog 16 #[.agg #[.slice A0_0 l0_0.length c0_0, .slice A0_1 l0_1.length c0_1, .slice A0_2 l0_2.length c0_2, .bool a0_3]] w fun e w' => ∃ v0_ v1_ v2_ : Value, e = .returned (.agg #[v0_, v1_, v2_, .bool r4]) ∧ Kd.R (Kd.int .i64) 3 w' w.heap.size (fun k_ => some k_ ≠ (v1_ : Value).ownBlock) v0_ r1 ∧ Kd.R (Kd.int .i64) 3 w' w.heap.size (fun k_ => some k_ ≠ (v0_ : Value).ownBlock) v1_ r2 ∧ Kd.R k90 90 w' w.heap.size (fun _ => True) v2_ r3 ∧ Below w.heap.size w w' := by
  have hu28 := Tryd.underlying28
  have hu38 := Tryd.underlying38
  have HR0_0 := Aside0.mk hr0_0
  have HC0_0 := Aside0.mk hc0_0
  clear hr0_0 hc0_0
  have HR0_1 := Aside0.mk hr0_1
  have HC0_1 := Aside0.mk hc0_1
  clear hr0_1 hc0_1
  have HR0_2 := Aside0.mk hr0_2
  have HC0_2 := Aside0.mk hc0_2
  clear hr0_2 hc0_2
  have HB := Aside0.mk (Below.refl w.heap.size w)
  have H : ((laws_toIntS.f k l0_0).bind fun t185 => ((laws_toIntS.f k l0_1).bind fun t188 => ((laws_toMeasureS.f k l0_2).bind fun t191 => (some (t185, t188, t191, a0_3))))) = some (r1, r2, r3, r4) := h
  clear h
  replace H := Option.bind_eq_some_iff.mp H
  obtain ⟨t185, A20, H⟩ := H
  replace H : ((laws_toIntS.f k l0_1).bind fun t188 => ((laws_toMeasureS.f k l0_2).bind fun t191 => (some (t185, t188, t191, a0_3)))) = some (r1, r2, r3, r4) := H
  have A2 := Aside0.mk A20
  clear A20
  replace H := Option.bind_eq_some_iff.mp H
  obtain ⟨t188, A30, H⟩ := H
  replace H : ((laws_toMeasureS.f k l0_2).bind fun t191 => (some (t185, t188, t191, a0_3))) = some (r1, r2, r3, r4) := H
  have A3 := Aside0.mk A30
  clear A30
  replace H := Option.bind_eq_some_iff.mp H
  obtain ⟨t191, A40, H⟩ := H
  replace H : (some (t185, t188, t191, a0_3)) = some (r1, r2, r3, r4) := H
  have A4 := Aside0.mk A40
  clear A40
  simp only [Option.some.injEq, Prod.mk.injEq] at H
  obtain ⟨rfl, rfl, rfl, rfl⟩ := H
  go_enter Tryd.func16, Tryd.ntmps16
  go_wp2_with (first | ((with_reducible refine gate_dst (N := 1) rfl ?_); refine box_event ?hg (N := 1) ?hd (cs := #[.slice A0_0 l0_0.length c0_0, .slice A0_1 l0_1.length c0_1, .slice A0_2 l0_2.length c0_2, .bool a0_3]) (t := 28) ?hr ?_; (case hd => rfl); (case hg => rfl); (case hr => first | (go_simp; done) | (go_simp; rfl)); intro gb182 hg w5 hbox hb; have n0_ := Aside0.mk (below_step (by repeat (first | (with_reducible first | exact HB.out | apply below_alloc | apply pw_below_drewN | apply below_drew1) | exact HB.out)) hb); have n1_ := Aside0.mk (hbox); have n2_ := Aside0.mk ((by rw [hg]; exact (below_size (by repeat (first | (with_reducible first | exact HB.out | apply below_alloc | apply pw_below_drewN | apply below_drew1) | exact HB.out))) : w.heap.size ≤ gb182)); have n3_ := Aside0.mk ((by rw [hg]; exact (below_size (by repeat (first | (with_reducible first | exact HB.out | apply below_alloc | apply pw_below_drewN | apply below_drew1) | exact HB.out))) : w.heap.size ≤ gb182)); clear HB; have HB := n0_; have BK182 := n1_; have GW182 := n2_; have GE182 := n3_; clear n0_ n1_ n2_ n3_; clear hb hbox hg) | ((with_reducible refine gate_dst (N := 2) rfl ?_); refine box_event ?hg (N := 2) ?hd (cs := #[.slice none 0 0, .slice none 0 0, .slice none 0 0, .bool false]) (t := 38) ?hr ?_; (case hd => rfl); (case hg => rfl); (case hr => first | (go_simp; done) | (go_simp; rfl)); intro gb183 hg w6 hbox hb; have n0_ := Aside0.mk (blk_below (g := gb182) (o := .cells #[.slice A0_0 l0_0.length c0_0, .slice A0_1 l0_1.length c0_1, .slice A0_2 l0_2.length c0_2, .bool a0_3] 28 (0, 0)) (by (with_reducible repeat (first | refine blk_drewN ?_ _ | refine blk_drew ?_ | refine blk_alloc ?_ _)); exact BK182.out) hb); have n1_ := Aside0.mk (below_step (by repeat (first | (with_reducible first | exact HB.out | apply below_alloc | apply pw_below_drewN | apply below_drew1 | refine below_set ?_ GE182.out) | exact HB.out)) hb); have n2_ := Aside0.mk (hbox); have n3_ := Aside0.mk ((by rw [hg]; exact (below_size (by repeat (first | (with_reducible first | exact HB.out | apply below_alloc | apply pw_below_drewN | apply below_drew1 | refine below_set ?_ GE182.out) | exact HB.out))) : w.heap.size ≤ gb183)); have n4_ := Aside0.mk ((by rw [hg]; exact (below_size (by repeat (first | (with_reducible first | exact HB.out | apply below_alloc | apply pw_below_drewN | apply below_drew1 | refine below_set ?_ GE182.out) | exact HB.out))) : w.heap.size ≤ gb183)); have n5_ := Aside0.mk ((by rw [hg]; exact Nat.ne_of_lt (blk_lt (g := gb182) (o := .cells #[.slice A0_0 l0_0.length c0_0, .slice A0_1 l0_1.length c0_1, .slice A0_2 l0_2.length c0_2, .bool a0_3] 28 (0, 0)) (by (with_reducible repeat (first | refine blk_drewN ?_ _ | refine blk_drew ?_ | refine blk_alloc ?_ _)); exact BK182.out)) : gb182 ≠ gb183)); have n6_ := Aside0.mk ((by rw [hg]; exact Nat.ne_of_gt (blk_lt (g := gb182) (o := .cells #[.slice A0_0 l0_0.length c0_0, .slice A0_1 l0_1.length c0_1, .slice A0_2 l0_2.length c0_2, .bool a0_3] 28 (0, 0)) (by (with_reducible repeat (first | refine blk_drewN ?_ _ | refine blk_drew ?_ | refine blk_alloc ?_ _)); exact BK182.out)) : gb183 ≠ gb182)); clear BK182; clear HB; have BK182 := n0_; have HB := n1_; have BK183 := n2_; have GW183 := n3_; have GE183 := n4_; have NB182_183 := n5_; have NB183_182 := n6_; clear n0_ n1_ n2_ n3_ n4_ n5_ n6_; clear hb hbox hg) | ((with_reducible refine gate_dst (N := 3) rfl ?_); refine box_event ?hg (N := 3) ?hd (cs := #[.slice none 0 0, .slice none 0 0, .slice none 0 0, .bool false]) (t := 38) ?hr ?_; (case hd => rfl); (case hg => rfl); (case hr => first | (go_simp; done) | (go_simp; rfl)); intro gb184 hg w7 hbox hb; have n0_ := Aside0.mk (blk_below (g := gb182) (o := .cells #[.slice A0_0 l0_0.length c0_0, .slice A0_1 l0_1.length c0_1, .slice A0_2 l0_2.length c0_2, .bool a0_3] 28 (0, 0)) (by (with_reducible repeat (first | refine blk_drewN ?_ _ | refine blk_drew ?_ | refine blk_alloc ?_ _)); exact BK182.out) hb); have n1_ := Aside0.mk (blk_below (g := gb183) (o := .cells #[.slice none 0 0, .slice none 0 0, .slice none 0 0, .bool false] 38 (0, 0)) (by (with_reducible repeat (first | refine blk_drewN ?_ _ | refine blk_drew ?_ | refine blk_alloc ?_ _)); exact BK183.out) hb); have n2_ := Aside0.mk (below_step (by repeat (first | (with_reducible first | exact HB.out | apply below_alloc | apply pw_below_drewN | apply below_drew1 | refine below_set ?_ GE182.out | refine below_set ?_ GE183.out) | exact HB.out)) hb); have n3_ := Aside0.mk (hbox); have n4_ := Aside0.mk ((by rw [hg]; exact (below_size (by repeat (first | (with_reducible first | exact HB.out | apply below_alloc | apply pw_below_drewN | apply below_drew1 | refine below_set ?_ GE182.out | refine below_set ?_ GE183.out) | exact HB.out))) : w.heap.size ≤ gb184)); have n5_ := Aside0.mk ((by rw [hg]; exact (below_size (by repeat (first | (with_reducible first | exact HB.out | apply below_alloc | apply pw_below_drewN | apply below_drew1 | refine below_set ?_ GE182.out | refine below_set ?_ GE183.out) | exact HB.out))) : w.heap.size ≤ gb184)); have n6_ := Aside0.mk ((by rw [hg]; exact Nat.ne_of_lt (blk_lt (g := gb182) (o := .cells #[.slice A0_0 l0_0.length c0_0, .slice A0_1 l0_1.length c0_1, .slice A0_2 l0_2.length c0_2, .bool a0_3] 28 (0, 0)) (by (with_reducible repeat (first | refine blk_drewN ?_ _ | refine blk_drew ?_ | refine blk_alloc ?_ _)); exact BK182.out)) : gb182 ≠ gb184)); have n7_ := Aside0.mk ((by rw [hg]; exact Nat.ne_of_gt (blk_lt (g := gb182) (o := .cells #[.slice A0_0 l0_0.length c0_0, .slice A0_1 l0_1.length c0_1, .slice A0_2 l0_2.length c0_2, .bool a0_3] 28 (0, 0)) (by (with_reducible repeat (first | refine blk_drewN ?_ _ | refine blk_drew ?_ | refine blk_alloc ?_ _)); exact BK182.out)) : gb184 ≠ gb182)); have n8_ := Aside0.mk ((by rw [hg]; exact Nat.ne_of_lt (blk_lt (g := gb183) (o := .cells #[.slice none 0 0, .slice none 0 0, .slice none 0 0, .bool false] 38 (0, 0)) (by (with_reducible repeat (first | refine blk_drewN ?_ _ | refine blk_drew ?_ | refine blk_alloc ?_ _)); exact BK183.out)) : gb183 ≠ gb184)); have n9_ := Aside0.mk ((by rw [hg]; exact Nat.ne_of_gt (blk_lt (g := gb183) (o := .cells #[.slice none 0 0, .slice none 0 0, .slice none 0 0, .bool false] 38 (0, 0)) (by (with_reducible repeat (first | refine blk_drewN ?_ _ | refine blk_drew ?_ | refine blk_alloc ?_ _)); exact BK183.out)) : gb184 ≠ gb183)); clear BK182; clear BK183; clear HB; have BK182 := n0_; have BK183 := n1_; have HB := n2_; have BK184 := n3_; have GW184 := n4_; have GE184 := n5_; have NB182_184 := n6_; have NB184_182 := n7_; have NB183_184 := n8_; have NB184_183 := n9_; clear n0_ n1_ n2_ n3_ n4_ n5_ n6_ n7_ n8_ n9_; clear hb hbox hg; have hnb8 := NB182_183.out; have hnc8 := NB183_182.out; have hnb9 := NB182_184.out; have hnc9 := NB184_182.out; have hcz10_0 : w7.cell? ⟨gb182, 0, none⟩ = some (.slice A0_0 l0_0.length c0_0) := (blk_cell BK182.out 0).trans rfl; have hcz10_1 : w7.cell? ⟨gb182, 1, none⟩ = some (.slice A0_1 l0_1.length c0_1) := (blk_cell BK182.out 1).trans rfl; have hcz10_2 : w7.cell? ⟨gb182, 2, none⟩ = some (.slice A0_2 l0_2.length c0_2) := (blk_cell BK182.out 2).trans rfl; have hcz10_3 : w7.cell? ⟨gb182, 3, none⟩ = some (.bool a0_3) := (blk_cell BK182.out 3).trans rfl; have hfz10_0 := blk_frozen BK182.out 0; have hfz10_1 := blk_frozen BK182.out 1; have hfz10_2 := blk_frozen BK182.out 2; have hfz10_3 := blk_frozen BK182.out 3) | ((with_reducible refine gate_callee (f := 53) rfl ?_); refine goesL_ (some 6) rfl rfl Tryd.func53 (by kernel_rfl) rfl #[.slice A0_0 l0_0.length c0_0] rfl (by (try simp only [List.map_toArray, List.map_cons, List.map_nil]); first | done | rfl | (simp only [List.length_drop, List.length_take]; rfl)) ?_; (with_reducible refine (laws_toIntS.calls k _ _ l0_0 t185 _ ?side1 ?side2 A2.out).mono ?_); (case side1 => repeat (first | exact (Kd.C_below HR0_0.out HB.out) | (with_reducible refine Kd.C_alloc ?_ _) | (with_reducible refine Kd.C_drewN ?_ _) | (with_reducible refine Kd.C_drew ?_))); (case side2 => exact HC0_0.out); rintro e w11 ⟨v186, rfl, ho0, hb⟩; refine ⟨_, rfl, ?_⟩; have n0_ := Aside0.mk (Kd.R_lower ho0 (below_size (by repeat (first | (with_reducible first | exact HB.out | apply below_alloc | apply pw_below_drewN | apply below_drew1 | refine below_set ?_ GE182.out | refine below_set ?_ GE183.out | refine below_set ?_ GE184.out) | exact HB.out)))); have n1_ := Aside0.mk (blk_below (g := gb182) (o := .cells #[.slice A0_0 l0_0.length c0_0, .slice A0_1 l0_1.length c0_1, .slice A0_2 l0_2.length c0_2, .bool a0_3] 28 (0, 0)) (by (with_reducible repeat (first | refine blk_drewN ?_ _ | refine blk_drew ?_ | refine blk_alloc ?_ _)); exact BK182.out) hb); have n2_ := Aside0.mk (blk_below (g := gb183) (o := .cells #[.slice none 0 0, .slice none 0 0, .slice none 0 0, .bool false] 38 (0, 0)) (by (with_reducible repeat (first | refine blk_drewN ?_ _ | refine blk_drew ?_ | refine blk_alloc ?_ _)); exact BK183.out) hb); have n3_ := Aside0.mk (blk_below (g := gb184) (o := .cells #[.slice none 0 0, .slice none 0 0, .slice none 0 0, .bool false] 38 (0, 0)) (by (with_reducible repeat (first | refine blk_drewN ?_ _ | refine blk_drew ?_ | refine blk_alloc ?_ _)); exact BK184.out) hb); have n4_ := Aside0.mk (below_step (by repeat (first | (with_reducible first | exact HB.out | apply below_alloc | apply pw_below_drewN | apply below_drew1 | refine below_set ?_ GE182.out | refine below_set ?_ GE183.out | refine below_set ?_ GE184.out) | exact HB.out)) hb); clear BK182; clear BK183; clear BK184; clear HB; have HO187 := n0_; have BK182 := n1_; have BK183 := n2_; have BK184 := n3_; have HB := n4_; clear n0_ n1_ n2_ n3_ n4_; (try clear hb); (try clear hb2); (try clear hk); (try clear hi); (try clear ho0); obtain ⟨Ao12, co12, eo12⟩ := Kd.R_slice HO187.out; subst eo12; have hnb13 := NB184_183.out; have hnc13 := NB183_184.out; have hcz14_0 : w11.cell? ⟨gb184, 0, none⟩ = some (.slice none 0 0) := (blk_cell BK184.out 0).trans rfl; have hcz14_1 : w11.cell? ⟨gb184, 1, none⟩ = some (.slice none 0 0) := (blk_cell BK184.out 1).trans rfl; have hcz14_2 : w11.cell? ⟨gb184, 2, none⟩ = some (.slice none 0 0) := (blk_cell BK184.out 2).trans rfl; have hcz14_3 : w11.cell? ⟨gb184, 3, none⟩ = some (.bool false) := (blk_cell BK184.out 3).trans rfl; have hfz14_0 := blk_frozen BK184.out 0; have hfz14_1 := blk_frozen BK184.out 1; have hfz14_2 := blk_frozen BK184.out 2; have hfz14_3 := blk_frozen BK184.out 3; have hcz15_0 : w11.cell? ⟨gb182, 0, none⟩ = some (.slice A0_0 l0_0.length c0_0) := (blk_cell BK182.out 0).trans rfl; have hcz15_1 : w11.cell? ⟨gb182, 1, none⟩ = some (.slice A0_1 l0_1.length c0_1) := (blk_cell BK182.out 1).trans rfl; have hcz15_2 : w11.cell? ⟨gb182, 2, none⟩ = some (.slice A0_2 l0_2.length c0_2) := (blk_cell BK182.out 2).trans rfl; have hcz15_3 : w11.cell? ⟨gb182, 3, none⟩ = some (.bool a0_3) := (blk_cell BK182.out 3).trans rfl; have hfz15_0 := blk_frozen BK182.out 0; have hfz15_1 := blk_frozen BK182.out 1; have hfz15_2 := blk_frozen BK182.out 2; have hfz15_3 := blk_frozen BK182.out 3) | ((with_reducible refine gate_callee (f := 53) rfl ?_); refine goesL_ (some 10) rfl rfl Tryd.func53 (by kernel_rfl) rfl #[.slice A0_1 l0_1.length c0_1] rfl (by (try simp only [List.map_toArray, List.map_cons, List.map_nil]); first | done | rfl | (simp only [List.length_drop, List.length_take]; rfl)) ?_; (with_reducible refine (laws_toIntS.calls k _ _ l0_1 t188 _ ?side1 ?side2 A3.out).mono ?_); (case side1 => exact Kd.C_below HR0_1.out (by repeat (first | (with_reducible first | exact HB.out | apply below_alloc | apply pw_below_drewN | apply below_drew1 | refine below_set ?_ GE182.out | refine below_set ?_ GE183.out | refine below_set ?_ GE184.out) | exact HB.out))); (case side2 => exact HC0_1.out); rintro e w16 ⟨v189, rfl, ho0, hb⟩; refine ⟨_, rfl, ?_⟩; have n0_ := Aside0.mk (Kd.R_elder' (by (with_reducible repeat (first | apply Kd.R_alloc | apply Kd.R_drewN | apply Kd.R_drew)); exact (Kd.R_mono (Kd.R_far (p := ⟨gb184, 0, none⟩) (Kd.R_types HO187.out BK184.out (by decide)) (fun _ hk => hk.2) (.slice Ao12 t185.length co12)) (fun _ h_ => h_.1))) (Kd.R_base ho0) hb); have n1_ := Aside0.mk (Kd.R_lower (Kd.R_new' ho0 (Kd.R_lt (by (with_reducible repeat (first | apply Kd.R_alloc | apply Kd.R_drewN | apply Kd.R_drew)); exact (Kd.R_mono (Kd.R_far (p := ⟨gb184, 0, none⟩) (Kd.R_types HO187.out BK184.out (by decide)) (fun _ hk => hk.2) (.slice Ao12 t185.length co12)) (fun _ h_ => h_.1))))) (below_size (by repeat (first | (with_reducible first | exact HB.out | apply below_alloc | apply pw_below_drewN | apply below_drew1 | refine below_set ?_ GE182.out | refine below_set ?_ GE183.out | refine below_set ?_ GE184.out) | exact HB.out)))); have n2_ := Aside0.mk (blk_below (g := gb182) (o := .cells #[.slice A0_0 l0_0.length c0_0, .slice A0_1 l0_1.length c0_1, .slice A0_2 l0_2.length c0_2, .bool a0_3] 28 (0, 0)) (by (with_reducible repeat (first | refine blk_drewN ?_ _ | refine blk_drew ?_ | refine blk_alloc ?_ _)); refine blk_far ?_ NB182_184.out _; (with_reducible repeat (first | refine blk_drewN ?_ _ | refine blk_drew ?_ | refine blk_alloc ?_ _)); exact BK182.out) hb); have n3_ := Aside0.mk (blk_below (g := gb183) (o := .cells #[.slice none 0 0, .slice none 0 0, .slice none 0 0, .bool false] 38 (0, 0)) (by (with_reducible repeat (first | refine blk_drewN ?_ _ | refine blk_drew ?_ | refine blk_alloc ?_ _)); refine blk_far ?_ NB183_184.out _; (with_reducible repeat (first | refine blk_drewN ?_ _ | refine blk_drew ?_ | refine blk_alloc ?_ _)); exact BK183.out) hb); have n4_ := Aside0.mk (blk_below (g := gb184) (o := .cells #[.slice Ao12 t185.length co12, .slice none 0 0, .slice none 0 0, .bool false] 38 (0, 0)) (by (with_reducible repeat (first | refine blk_drewN ?_ _ | refine blk_drew ?_ | refine blk_alloc ?_ _)); refine blk_put (cs := #[.slice none 0 0, .slice none 0 0, .slice none 0 0, .bool false]) ?_ 0 _ rfl; (with_reducible repeat (first | refine blk_drewN ?_ _ | refine blk_drew ?_ | refine blk_alloc ?_ _)); exact BK184.out) hb); have n5_ := Aside0.mk (below_step (by repeat (first | (with_reducible first | exact HB.out | apply below_alloc | apply pw_below_drewN | apply below_drew1 | refine below_set ?_ GE182.out | refine below_set ?_ GE183.out | refine below_set ?_ GE184.out) | exact HB.out)) hb); clear HO187; clear BK182; clear BK183; clear BK184; clear HB; have HO187 := n0_; have HO190 := n1_; have BK182 := n2_; have BK183 := n3_; have BK184 := n4_; have HB := n5_; clear n0_ n1_ n2_ n3_ n4_ n5_; (try clear hb); (try clear hb2); (try clear hk); (try clear hi); (try clear ho0); obtain ⟨Ao17, co17, eo17⟩ := Kd.R_slice HO190.out; subst eo17; have hcz18_0 : w16.cell? ⟨gb184, 0, none⟩ = some (.slice Ao12 t185.length co12) := (blk_cell BK184.out 0).trans rfl; have hcz18_1 : w16.cell? ⟨gb184, 1, none⟩ = some (.slice none 0 0) := (blk_cell BK184.out 1).trans rfl; have hcz18_2 : w16.cell? ⟨gb184, 2, none⟩ = some (.slice none 0 0) := (blk_cell BK184.out 2).trans rfl; have hcz18_3 : w16.cell? ⟨gb184, 3, none⟩ = some (.bool false) := (blk_cell BK184.out 3).trans rfl; have hfz18_0 := blk_frozen BK184.out 0; have hfz18_1 := blk_frozen BK184.out 1; have hfz18_2 := blk_frozen BK184.out 2; have hfz18_3 := blk_frozen BK184.out 3; have hcz19_0 : w16.cell? ⟨gb182, 0, none⟩ = some (.slice A0_0 l0_0.length c0_0) := (blk_cell BK182.out 0).trans rfl; have hcz19_1 : w16.cell? ⟨gb182, 1, none⟩ = some (.slice A0_1 l0_1.length c0_1) := (blk_cell BK182.out 1).trans rfl; have hcz19_2 : w16.cell? ⟨gb182, 2, none⟩ = some (.slice A0_2 l0_2.length c0_2) := (blk_cell BK182.out 2).trans rfl; have hcz19_3 : w16.cell? ⟨gb182, 3, none⟩ = some (.bool a0_3) := (blk_cell BK182.out 3).trans rfl; have hfz19_0 := blk_frozen BK182.out 0; have hfz19_1 := blk_frozen BK182.out 1; have hfz19_2 := blk_frozen BK182.out 2; have hfz19_3 := blk_frozen BK182.out 3) | ((with_reducible refine gate_callee (f := 54) rfl ?_); refine goesL_ (some 14) rfl rfl Tryd.func54 (by kernel_rfl) rfl #[.slice A0_2 l0_2.length c0_2] rfl (by (try simp only [List.map_toArray, List.map_cons, List.map_nil]); first | done | rfl | (simp only [List.length_drop, List.length_take]; rfl)) ?_; (with_reducible refine (laws_toMeasureS.calls k _ _ l0_2 t191 _ ?side1 ?side2 A4.out).mono ?_); (case side1 => exact Kd.C_below HR0_2.out (by repeat (first | (with_reducible first | exact HB.out | apply below_alloc | apply pw_below_drewN | apply below_drew1 | refine below_set ?_ GE182.out | refine below_set ?_ GE183.out | refine below_set ?_ GE184.out) | exact HB.out))); (case side2 => exact HC0_2.out); rintro e w20 ⟨v192, rfl, ho0, hb⟩; refine ⟨_, rfl, ?_⟩; have n0_ := Aside0.mk (Kd.R_below (by (with_reducible repeat (first | apply Kd.R_alloc | apply Kd.R_drewN | apply Kd.R_drew)); exact (Kd.R_mono (Kd.R_far (p := ⟨gb184, 1, none⟩) (Kd.R_types HO187.out BK184.out (by decide)) (fun _ hk => hk.2) (.slice Ao17 t188.length co17)) (fun _ h_ => h_.1))) hb); have n1_ := Aside0.mk (Kd.R_below (by (with_reducible repeat (first | apply Kd.R_alloc | apply Kd.R_drewN | apply Kd.R_drew)); exact (Kd.R_mono (Kd.R_far (p := ⟨gb184, 1, none⟩) (Kd.R_types HO190.out BK184.out (by decide)) (fun _ hk => hk.2) (.slice Ao17 t188.length co17)) (fun _ h_ => h_.1))) hb); have n2_ := Aside0.mk (Kd.R_lower ho0 (below_size (by repeat (first | (with_reducible first | exact HB.out | apply below_alloc | apply pw_below_drewN | apply below_drew1 | refine below_set ?_ GE182.out | refine below_set ?_ GE183.out | refine below_set ?_ GE184.out) | exact HB.out)))); have n3_ := Aside0.mk (blk_below (g := gb182) (o := .cells #[.slice A0_0 l0_0.length c0_0, .slice A0_1 l0_1.length c0_1, .slice A0_2 l0_2.length c0_2, .bool a0_3] 28 (0, 0)) (by (with_reducible repeat (first | refine blk_drewN ?_ _ | refine blk_drew ?_ | refine blk_alloc ?_ _)); refine blk_far ?_ NB182_184.out _; (with_reducible repeat (first | refine blk_drewN ?_ _ | refine blk_drew ?_ | refine blk_alloc ?_ _)); exact BK182.out) hb); have n4_ := Aside0.mk (blk_below (g := gb183) (o := .cells #[.slice none 0 0, .slice none 0 0, .slice none 0 0, .bool false] 38 (0, 0)) (by (with_reducible repeat (first | refine blk_drewN ?_ _ | refine blk_drew ?_ | refine blk_alloc ?_ _)); refine blk_far ?_ NB183_184.out _; (with_reducible repeat (first | refine blk_drewN ?_ _ | refine blk_drew ?_ | refine blk_alloc ?_ _)); exact BK183.out) hb); have n5_ := Aside0.mk (blk_below (g := gb184) (o := .cells #[.slice Ao12 t185.length co12, .slice Ao17 t188.length co17, .slice none 0 0, .bool false] 38 (0, 0)) (by (with_reducible repeat (first | refine blk_drewN ?_ _ | refine blk_drew ?_ | refine blk_alloc ?_ _)); refine blk_put (cs := #[.slice Ao12 t185.length co12, .slice none 0 0, .slice none 0 0, .bool false]) ?_ 1 _ rfl; (with_reducible repeat (first | refine blk_drewN ?_ _ | refine blk_drew ?_ | refine blk_alloc ?_ _)); exact BK184.out) hb); have n6_ := Aside0.mk (below_step (by repeat (first | (with_reducible first | exact HB.out | apply below_alloc | apply pw_below_drewN | apply below_drew1 | refine below_set ?_ GE182.out | refine below_set ?_ GE183.out | refine below_set ?_ GE184.out) | exact HB.out)) hb); clear HO187; clear HO190; clear BK182; clear BK183; clear BK184; clear HB; have HO187 := n0_; have HO190 := n1_; have HO193 := n2_; have BK182 := n3_; have BK183 := n4_; have BK184 := n5_; have HB := n6_; clear n0_ n1_ n2_ n3_ n4_ n5_ n6_; (try clear hb); (try clear hb2); (try clear hk); (try clear hi); (try clear ho0); obtain ⟨Ao21, co21, eo21⟩ := Kd.R_slice HO193.out; subst eo21; have hcz22_0 : w20.cell? ⟨gb184, 0, none⟩ = some (.slice Ao12 t185.length co12) := (blk_cell BK184.out 0).trans rfl; have hcz22_1 : w20.cell? ⟨gb184, 1, none⟩ = some (.slice Ao17 t188.length co17) := (blk_cell BK184.out 1).trans rfl; have hcz22_2 : w20.cell? ⟨gb184, 2, none⟩ = some (.slice none 0 0) := (blk_cell BK184.out 2).trans rfl; have hcz22_3 : w20.cell? ⟨gb184, 3, none⟩ = some (.bool false) := (blk_cell BK184.out 3).trans rfl; have hfz22_0 := blk_frozen BK184.out 0; have hfz22_1 := blk_frozen BK184.out 1; have hfz22_2 := blk_frozen BK184.out 2; have hfz22_3 := blk_frozen BK184.out 3; have hcz23_0 : w20.cell? ⟨gb182, 0, none⟩ = some (.slice A0_0 l0_0.length c0_0) := (blk_cell BK182.out 0).trans rfl; have hcz23_1 : w20.cell? ⟨gb182, 1, none⟩ = some (.slice A0_1 l0_1.length c0_1) := (blk_cell BK182.out 1).trans rfl; have hcz23_2 : w20.cell? ⟨gb182, 2, none⟩ = some (.slice A0_2 l0_2.length c0_2) := (blk_cell BK182.out 2).trans rfl; have hcz23_3 : w20.cell? ⟨gb182, 3, none⟩ = some (.bool a0_3) := (blk_cell BK182.out 3).trans rfl; have hfz23_0 := blk_frozen BK182.out 0; have hfz23_1 := blk_frozen BK182.out 1; have hfz23_2 := blk_frozen BK182.out 2; have hfz23_3 := blk_frozen BK182.out 3; have hcz24_0 : w20.cell? ⟨gb183, 0, none⟩ = some (.slice none 0 0) := (blk_cell BK183.out 0).trans rfl; have hcz24_1 : w20.cell? ⟨gb183, 1, none⟩ = some (.slice none 0 0) := (blk_cell BK183.out 1).trans rfl; have hcz24_2 : w20.cell? ⟨gb183, 2, none⟩ = some (.slice none 0 0) := (blk_cell BK183.out 2).trans rfl; have hcz24_3 : w20.cell? ⟨gb183, 3, none⟩ = some (.bool false) := (blk_cell BK183.out 3).trans rfl; have hfz24_0 := blk_frozen BK183.out 0; have hfz24_1 := blk_frozen BK183.out 1; have hfz24_2 := blk_frozen BK183.out 2; have hfz24_3 := blk_frozen BK183.out 3))
  refine bodyPost_ret (results_cell_row rfl _ _ gb183 38 #[.slice Ao12 t185.length co12, .slice Ao17 t188.length co17, .slice Ao21 t191.length co21, .bool a0_3] (0, 0) _ rfl (by (with_reducible repeat (first | refine blk_drewN ?_ _ | refine blk_drew ?_ | refine blk_alloc ?_ _)); refine blk_put (cs := #[.slice Ao12 t185.length co12, .slice Ao17 t188.length co17, .slice Ao21 t191.length co21, .bool false]) ?_ 3 _ rfl; (with_reducible repeat (first | refine blk_drewN ?_ _ | refine blk_drew ?_ | refine blk_alloc ?_ _)); refine blk_put (cs := #[.slice Ao12 t185.length co12, .slice Ao17 t188.length co17, .slice none 0 0, .bool false]) ?_ 2 _ rfl; (with_reducible repeat (first | refine blk_drewN ?_ _ | refine blk_drew ?_ | refine blk_alloc ?_ _)); refine blk_put (cs := #[.slice Ao12 t185.length co12, .slice none 0 0, .slice none 0 0, .bool false]) ?_ 1 _ rfl; (with_reducible repeat (first | refine blk_drewN ?_ _ | refine blk_drew ?_ | refine blk_alloc ?_ _)); refine blk_put (cs := #[.slice none 0 0, .slice none 0 0, .slice none 0 0, .bool false]) ?_ 0 _ rfl; (with_reducible repeat (first | refine blk_drewN ?_ _ | refine blk_drew ?_ | refine blk_alloc ?_ _)); refine blk_far ?_ NB183_184.out _; (with_reducible repeat (first | refine blk_drewN ?_ _ | refine blk_drew ?_ | refine blk_alloc ?_ _)); refine blk_far ?_ NB183_184.out _; (with_reducible repeat (first | refine blk_drewN ?_ _ | refine blk_drew ?_ | refine blk_alloc ?_ _)); exact BK183.out) Tryd.underlying38 rfl (by kernel_rfl)) rfl ?_
  exact ⟨_, _, _, by first | rfl | (simp [errW_none, errW_some] <;> rfl) | (simp [*, errW_none, errW_some] <;> rfl), by (with_reducible repeat (first | apply Kd.R_alloc | apply Kd.R_drewN | apply Kd.R_drew)); exact Kd.R_mono (Kd.R_far (p := ⟨gb183, 3, none⟩) (Kd.R_far (p := ⟨gb183, 2, none⟩) (Kd.R_far (p := ⟨gb183, 1, none⟩) (Kd.R_far (p := ⟨gb183, 0, none⟩) (Kd.R_far (p := ⟨gb184, 3, none⟩) (Kd.R_far (p := ⟨gb184, 2, none⟩) (Kd.R_types (Kd.R_types HO187.out BK184.out (by decide)) BK183.out (by decide)) (fun _ hk => hk.1.2) (.slice Ao21 t191.length co21)) (fun _ hk => hk.1.2) (.bool a0_3)) (fun _ hk => hk.2) (.slice Ao12 t185.length co12)) (fun _ hk => hk.2) (.slice Ao17 t188.length co17)) (fun _ hk => hk.2) (.slice Ao21 t191.length co21)) (fun _ hk => hk.2) (.bool a0_3)) (fun _ hk => hk.1.1.2), by (with_reducible repeat (first | apply Kd.R_alloc | apply Kd.R_drewN | apply Kd.R_drew)); exact Kd.R_mono (Kd.R_far (p := ⟨gb183, 3, none⟩) (Kd.R_far (p := ⟨gb183, 2, none⟩) (Kd.R_far (p := ⟨gb183, 1, none⟩) (Kd.R_far (p := ⟨gb183, 0, none⟩) (Kd.R_far (p := ⟨gb184, 3, none⟩) (Kd.R_far (p := ⟨gb184, 2, none⟩) (Kd.R_types (Kd.R_types HO190.out BK184.out (by decide)) BK183.out (by decide)) (fun _ hk => hk.1.2) (.slice Ao21 t191.length co21)) (fun _ hk => hk.1.2) (.bool a0_3)) (fun _ hk => hk.2) (.slice Ao12 t185.length co12)) (fun _ hk => hk.2) (.slice Ao17 t188.length co17)) (fun _ hk => hk.2) (.slice Ao21 t191.length co21)) (fun _ hk => hk.2) (.bool a0_3)) (fun _ hk => hk.1.1.2), by (with_reducible repeat (first | apply Kd.R_alloc | apply Kd.R_drewN | apply Kd.R_drew)); exact Kd.R_mono (Kd.R_far (p := ⟨gb183, 3, none⟩) (Kd.R_far (p := ⟨gb183, 2, none⟩) (Kd.R_far (p := ⟨gb183, 1, none⟩) (Kd.R_far (p := ⟨gb183, 0, none⟩) (Kd.R_far (p := ⟨gb184, 3, none⟩) (Kd.R_far (p := ⟨gb184, 2, none⟩) (Kd.R_types (Kd.R_types HO193.out BK184.out (by decide)) BK183.out (by decide)) (fun _ hk => hk.1.2) (.slice Ao21 t191.length co21)) (fun _ hk => hk.1.2) (.bool a0_3)) (fun _ hk => hk.2) (.slice Ao12 t185.length co12)) (fun _ hk => hk.2) (.slice Ao17 t188.length co17)) (fun _ hk => hk.2) (.slice Ao21 t191.length co21)) (fun _ hk => hk.2) (.bool a0_3)) (fun _ hk => trivial), by repeat (first | (with_reducible first | exact HB.out | apply below_alloc | apply pw_below_drewN | apply below_drew1 | refine below_set ?_ GE182.out | refine below_set ?_ GE183.out | refine below_set ?_ GE184.out) | exact HB.out)⟩



/-! ### impl_isGoodDec: function 81 -/

def impl_isGoodDec.f (a0_0 : Bool) (a0_1 : Int) (a0_2 : Int) : Option (Bool) := if (!a0_0 && (a0_1 == 0 && (a0_2 == 0))) = true then (some true) else (if a0_1 ≥ 1 then (if a0_1 ≤ 999999999999999 then (if (Int.tmod a0_1 10) = 0 then (some false) else (if a0_2 ≥ (-300) then (some (decide (a0_2 ≤ 300))) else (some false))) else (some false)) else (some false))

set_option maxHeartbeats 8000000 in
set_option maxRecDepth 100000 in
theorem impl_isGoodDec.calls (a0_0 : Bool) (a0_1 : Int) (a0_2 : Int) (r : Bool) (w : World) (h : impl_isGoodDec.f a0_0 a0_1 a0_2 = some r) :
    Calls Tryd.prog 81 #[.agg #[.bool a0_0, .int .i64 a0_1, .int .i64 a0_2]] w fun e w' => e = .returned (.bool r) ∧ Below w.heap.size w w' := by
  have hu65 := Tryd.underlying65
  have HB := Aside0.mk (Below.refl w.heap.size w)
  have H : (if (!a0_0 && (a0_1 == 0 && (a0_2 == 0))) = true then (some true) else (if a0_1 ≥ 1 then (if a0_1 ≤ 999999999999999 then (if (Int.tmod a0_1 10) = 0 then (some false) else (if a0_2 ≥ (-300) then (some (decide (a0_2 ≤ 300))) else (some false))) else (some false)) else (some false))) = some r := h
  clear h
  by_cases c2 : (!a0_0 && (a0_1 == 0 && (a0_2 == 0))) = true
  · rw [if_pos c2] at H
    have c2b0 : (!a0_0 && (a0_1 == 0 && (a0_2 == 0))) = true := c2
    clear c2
    obtain rfl := Option.some.inj H
    go_enter Tryd.func81, Tryd.ntmps81
    go_wp2_with (first | ((with_reducible refine gate_dst (N := 1) rfl ?_); refine box_event ?hg (N := 1) ?hd (cs := #[.bool a0_0, .int .i64 a0_1, .int .i64 a0_2]) (t := 65) ?hr ?_; (case hd => rfl); (case hg => rfl); (case hr => first | (go_simp; done) | (go_simp; rfl)); intro gb194 hg w3 hbox hb; have n0_ := Aside0.mk (below_step (by repeat (first | (with_reducible first | exact HB.out | apply below_alloc | apply pw_below_drewN | apply below_drew1) | exact HB.out)) hb); have n1_ := Aside0.mk (hbox); have n2_ := Aside0.mk ((by rw [hg]; exact (below_size (by repeat (first | (with_reducible first | exact HB.out | apply below_alloc | apply pw_below_drewN | apply below_drew1) | exact HB.out))) : w.heap.size ≤ gb194)); have n3_ := Aside0.mk ((by rw [hg]; exact (below_size (by repeat (first | (with_reducible first | exact HB.out | apply below_alloc | apply pw_below_drewN | apply below_drew1) | exact HB.out))) : w.heap.size ≤ gb194)); clear HB; have HB := n0_; have BK194 := n1_; have GW194 := n2_; have GE194 := n3_; clear n0_ n1_ n2_ n3_; clear hb hbox hg; have hcz4_0 : w3.cell? ⟨gb194, 0, none⟩ = some (.bool a0_0) := (blk_cell BK194.out 0).trans rfl; have hcz4_1 : w3.cell? ⟨gb194, 1, none⟩ = some (.int .i64 a0_1) := (blk_cell BK194.out 1).trans rfl; have hcz4_2 : w3.cell? ⟨gb194, 2, none⟩ = some (.int .i64 a0_2) := (blk_cell BK194.out 2).trans rfl; have hfz4_0 := blk_frozen BK194.out 0; have hfz4_1 := blk_frozen BK194.out 1; have hfz4_2 := blk_frozen BK194.out 2))
    go_ret
    exact ⟨by first | rfl | (simp [errW_none, errW_some] <;> rfl) | (simp [*, errW_none, errW_some] <;> rfl), by repeat (first | (with_reducible first | exact HB.out | apply below_alloc | apply pw_below_drewN | apply below_drew1 | refine below_set ?_ GE194.out) | exact HB.out)⟩
  · rw [if_neg c2] at H
    have c2b0 : (!a0_0 && (a0_1 == 0 && (a0_2 == 0))) = false := by simpa using c2
    clear c2
    by_cases c5 : a0_1 ≥ 1
    · rw [if_pos c5] at H
      have c5b0 : decide (1 ≤ a0_1) = true := decide_eq_true c5
      clear c5
      by_cases c6 : a0_1 ≤ 999999999999999
      · rw [if_pos c6] at H
        have c6b0 : decide (a0_1 ≤ 999999999999999) = true := decide_eq_true c6
        clear c6
        by_cases c7 : (Int.tmod a0_1 10) = 0
        · rw [if_pos c7] at H
          have c7b0 : ((Int.tmod a0_1 10) == 0) = true := beq_iff_eq.mpr c7
          have c7b1 : ((Int.tmod a0_1 10) != 0) = false := bne_eq_false_iff_eq.mpr c7
          clear c7
          obtain rfl := Option.some.inj H
          go_enter Tryd.func81, Tryd.ntmps81
          go_wp2_with (first | ((with_reducible refine gate_dst (N := 1) rfl ?_); refine box_event ?hg (N := 1) ?hd (cs := #[.bool a0_0, .int .i64 a0_1, .int .i64 a0_2]) (t := 65) ?hr ?_; (case hd => rfl); (case hg => rfl); (case hr => first | (go_simp; done) | (go_simp; rfl)); intro gb194 hg w8 hbox hb; have n0_ := Aside0.mk (below_step (by repeat (first | (with_reducible first | exact HB.out | apply below_alloc | apply pw_below_drewN | apply below_drew1) | exact HB.out)) hb); have n1_ := Aside0.mk (hbox); have n2_ := Aside0.mk ((by rw [hg]; exact (below_size (by repeat (first | (with_reducible first | exact HB.out | apply below_alloc | apply pw_below_drewN | apply below_drew1) | exact HB.out))) : w.heap.size ≤ gb194)); have n3_ := Aside0.mk ((by rw [hg]; exact (below_size (by repeat (first | (with_reducible first | exact HB.out | apply below_alloc | apply pw_below_drewN | apply below_drew1) | exact HB.out))) : w.heap.size ≤ gb194)); clear HB; have HB := n0_; have BK194 := n1_; have GW194 := n2_; have GE194 := n3_; clear n0_ n1_ n2_ n3_; clear hb hbox hg; have hcz9_0 : w8.cell? ⟨gb194, 0, none⟩ = some (.bool a0_0) := (blk_cell BK194.out 0).trans rfl; have hcz9_1 : w8.cell? ⟨gb194, 1, none⟩ = some (.int .i64 a0_1) := (blk_cell BK194.out 1).trans rfl; have hcz9_2 : w8.cell? ⟨gb194, 2, none⟩ = some (.int .i64 a0_2) := (blk_cell BK194.out 2).trans rfl; have hfz9_0 := blk_frozen BK194.out 0; have hfz9_1 := blk_frozen BK194.out 1; have hfz9_2 := blk_frozen BK194.out 2))
          go_ret
          exact ⟨by first | rfl | (simp [errW_none, errW_some] <;> rfl) | (simp [*, errW_none, errW_some] <;> rfl), by repeat (first | (with_reducible first | exact HB.out | apply below_alloc | apply pw_below_drewN | apply below_drew1 | refine below_set ?_ GE194.out) | exact HB.out)⟩
        · rw [if_neg c7] at H
          have c7b0 : ((Int.tmod a0_1 10) == 0) = false := beq_eq_false_iff_ne.mpr c7
          have c7b1 : ((Int.tmod a0_1 10) != 0) = true := bne_iff_ne.mpr c7
          by_cases c10 : a0_2 ≥ (-300)
          · rw [if_pos c10] at H
            have c10b0 : decide ((-300) ≤ a0_2) = true := decide_eq_true c10
            clear c10
            obtain rfl := Option.some.inj H
            go_enter Tryd.func81, Tryd.ntmps81
            go_wp2_with (first | ((with_reducible refine gate_dst (N := 1) rfl ?_); refine box_event ?hg (N := 1) ?hd (cs := #[.bool a0_0, .int .i64 a0_1, .int .i64 a0_2]) (t := 65) ?hr ?_; (case hd => rfl); (case hg => rfl); (case hr => first | (go_simp; done) | (go_simp; rfl)); intro gb194 hg w11 hbox hb; have n0_ := Aside0.mk (below_step (by repeat (first | (with_reducible first | exact HB.out | apply below_alloc | apply pw_below_drewN | apply below_drew1) | exact HB.out)) hb); have n1_ := Aside0.mk (hbox); have n2_ := Aside0.mk ((by rw [hg]; exact (below_size (by repeat (first | (with_reducible first | exact HB.out | apply below_alloc | apply pw_below_drewN | apply below_drew1) | exact HB.out))) : w.heap.size ≤ gb194)); have n3_ := Aside0.mk ((by rw [hg]; exact (below_size (by repeat (first | (with_reducible first | exact HB.out | apply below_alloc | apply pw_below_drewN | apply below_drew1) | exact HB.out))) : w.heap.size ≤ gb194)); clear HB; have HB := n0_; have BK194 := n1_; have GW194 := n2_; have GE194 := n3_; clear n0_ n1_ n2_ n3_; clear hb hbox hg; have hcz12_0 : w11.cell? ⟨gb194, 0, none⟩ = some (.bool a0_0) := (blk_cell BK194.out 0).trans rfl; have hcz12_1 : w11.cell? ⟨gb194, 1, none⟩ = some (.int .i64 a0_1) := (blk_cell BK194.out 1).trans rfl; have hcz12_2 : w11.cell? ⟨gb194, 2, none⟩ = some (.int .i64 a0_2) := (blk_cell BK194.out 2).trans rfl; have hfz12_0 := blk_frozen BK194.out 0; have hfz12_1 := blk_frozen BK194.out 1; have hfz12_2 := blk_frozen BK194.out 2))
            go_ret
            exact ⟨by first | rfl | (simp [errW_none, errW_some] <;> rfl) | (simp [*, errW_none, errW_some] <;> rfl), by repeat (first | (with_reducible first | exact HB.out | apply below_alloc | apply pw_below_drewN | apply below_drew1 | refine below_set ?_ GE194.out) | exact HB.out)⟩
          · rw [if_neg c10] at H
            have c10b0 : decide ((-300) ≤ a0_2) = false := decide_eq_false c10
            clear c10
            obtain rfl := Option.some.inj H
            go_enter Tryd.func81, Tryd.ntmps81
            go_wp2_with (first | ((with_reducible refine gate_dst (N := 1) rfl ?_); refine box_event ?hg (N := 1) ?hd (cs := #[.bool a0_0, .int .i64 a0_1, .int .i64 a0_2]) (t := 65) ?hr ?_; (case hd => rfl); (case hg => rfl); (case hr => first | (go_simp; done) | (go_simp; rfl)); intro gb194 hg w13 hbox hb; have n0_ := Aside0.mk (below_step (by repeat (first | (with_reducible first | exact HB.out | apply below_alloc | apply pw_below_drewN | apply below_drew1) | exact HB.out)) hb); have n1_ := Aside0.mk (hbox); have n2_ := Aside0.mk ((by rw [hg]; exact (below_size (by repeat (first | (with_reducible first | exact HB.out | apply below_alloc | apply pw_below_drewN | apply below_drew1) | exact HB.out))) : w.heap.size ≤ gb194)); have n3_ := Aside0.mk ((by rw [hg]; exact (below_size (by repeat (first | (with_reducible first | exact HB.out | apply below_alloc | apply pw_below_drewN | apply below_drew1) | exact HB.out))) : w.heap.size ≤ gb194)); clear HB; have HB := n0_; have BK194 := n1_; have GW194 := n2_; have GE194 := n3_; clear n0_ n1_ n2_ n3_; clear hb hbox hg; have hcz14_0 : w13.cell? ⟨gb194, 0, none⟩ = some (.bool a0_0) := (blk_cell BK194.out 0).trans rfl; have hcz14_1 : w13.cell? ⟨gb194, 1, none⟩ = some (.int .i64 a0_1) := (blk_cell BK194.out 1).trans rfl; have hcz14_2 : w13.cell? ⟨gb194, 2, none⟩ = some (.int .i64 a0_2) := (blk_cell BK194.out 2).trans rfl; have hfz14_0 := blk_frozen BK194.out 0; have hfz14_1 := blk_frozen BK194.out 1; have hfz14_2 := blk_frozen BK194.out 2))
            go_ret
            exact ⟨by first | rfl | (simp [errW_none, errW_some] <;> rfl) | (simp [*, errW_none, errW_some] <;> rfl), by repeat (first | (with_reducible first | exact HB.out | apply below_alloc | apply pw_below_drewN | apply below_drew1 | refine below_set ?_ GE194.out) | exact HB.out)⟩
      · rw [if_neg c6] at H
        have c6b0 : decide (a0_1 ≤ 999999999999999) = false := decide_eq_false c6
        clear c6
        obtain rfl := Option.some.inj H
        go_enter Tryd.func81, Tryd.ntmps81
        go_wp2_with (first | ((with_reducible refine gate_dst (N := 1) rfl ?_); refine box_event ?hg (N := 1) ?hd (cs := #[.bool a0_0, .int .i64 a0_1, .int .i64 a0_2]) (t := 65) ?hr ?_; (case hd => rfl); (case hg => rfl); (case hr => first | (go_simp; done) | (go_simp; rfl)); intro gb194 hg w15 hbox hb; have n0_ := Aside0.mk (below_step (by repeat (first | (with_reducible first | exact HB.out | apply below_alloc | apply pw_below_drewN | apply below_drew1) | exact HB.out)) hb); have n1_ := Aside0.mk (hbox); have n2_ := Aside0.mk ((by rw [hg]; exact (below_size (by repeat (first | (with_reducible first | exact HB.out | apply below_alloc | apply pw_below_drewN | apply below_drew1) | exact HB.out))) : w.heap.size ≤ gb194)); have n3_ := Aside0.mk ((by rw [hg]; exact (below_size (by repeat (first | (with_reducible first | exact HB.out | apply below_alloc | apply pw_below_drewN | apply below_drew1) | exact HB.out))) : w.heap.size ≤ gb194)); clear HB; have HB := n0_; have BK194 := n1_; have GW194 := n2_; have GE194 := n3_; clear n0_ n1_ n2_ n3_; clear hb hbox hg; have hcz16_0 : w15.cell? ⟨gb194, 0, none⟩ = some (.bool a0_0) := (blk_cell BK194.out 0).trans rfl; have hcz16_1 : w15.cell? ⟨gb194, 1, none⟩ = some (.int .i64 a0_1) := (blk_cell BK194.out 1).trans rfl; have hcz16_2 : w15.cell? ⟨gb194, 2, none⟩ = some (.int .i64 a0_2) := (blk_cell BK194.out 2).trans rfl; have hfz16_0 := blk_frozen BK194.out 0; have hfz16_1 := blk_frozen BK194.out 1; have hfz16_2 := blk_frozen BK194.out 2))
        go_ret
        exact ⟨by first | rfl | (simp [errW_none, errW_some] <;> rfl) | (simp [*, errW_none, errW_some] <;> rfl), by repeat (first | (with_reducible first | exact HB.out | apply below_alloc | apply pw_below_drewN | apply below_drew1 | refine below_set ?_ GE194.out) | exact HB.out)⟩
    · rw [if_neg c5] at H
      have c5b0 : decide (1 ≤ a0_1) = false := decide_eq_false c5
      clear c5
      obtain rfl := Option.some.inj H
      go_enter Tryd.func81, Tryd.ntmps81
      go_wp2_with (first | ((with_reducible refine gate_dst (N := 1) rfl ?_); refine box_event ?hg (N := 1) ?hd (cs := #[.bool a0_0, .int .i64 a0_1, .int .i64 a0_2]) (t := 65) ?hr ?_; (case hd => rfl); (case hg => rfl); (case hr => first | (go_simp; done) | (go_simp; rfl)); intro gb194 hg w17 hbox hb; have n0_ := Aside0.mk (below_step (by repeat (first | (with_reducible first | exact HB.out | apply below_alloc | apply pw_below_drewN | apply below_drew1) | exact HB.out)) hb); have n1_ := Aside0.mk (hbox); have n2_ := Aside0.mk ((by rw [hg]; exact (below_size (by repeat (first | (with_reducible first | exact HB.out | apply below_alloc | apply pw_below_drewN | apply below_drew1) | exact HB.out))) : w.heap.size ≤ gb194)); have n3_ := Aside0.mk ((by rw [hg]; exact (below_size (by repeat (first | (with_reducible first | exact HB.out | apply below_alloc | apply pw_below_drewN | apply below_drew1) | exact HB.out))) : w.heap.size ≤ gb194)); clear HB; have HB := n0_; have BK194 := n1_; have GW194 := n2_; have GE194 := n3_; clear n0_ n1_ n2_ n3_; clear hb hbox hg; have hcz18_0 : w17.cell? ⟨gb194, 0, none⟩ = some (.bool a0_0) := (blk_cell BK194.out 0).trans rfl; have hcz18_1 : w17.cell? ⟨gb194, 1, none⟩ = some (.int .i64 a0_1) := (blk_cell BK194.out 1).trans rfl; have hcz18_2 : w17.cell? ⟨gb194, 2, none⟩ = some (.int .i64 a0_2) := (blk_cell BK194.out 2).trans rfl; have hfz18_0 := blk_frozen BK194.out 0; have hfz18_1 := blk_frozen BK194.out 1; have hfz18_2 := blk_frozen BK194.out 2))
      go_ret
      exact ⟨by first | rfl | (simp [errW_none, errW_some] <;> rfl) | (simp [*, errW_none, errW_some] <;> rfl), by repeat (first | (with_reducible first | exact HB.out | apply below_alloc | apply pw_below_drewN | apply below_drew1 | refine below_set ?_ GE194.out) | exact HB.out)⟩



/-! ### impl_plainText: function 129 -/

def impl_plainText.l0 : Nat → ByteArray → Int → Option (Bool)
  | 0, _, _ => none
  | k + 1, x0, x5 => if x5 < (x0.size : Int) then (if 0 ≤ x5 then (if (bt x0 x5) < 32 then (some false) else (if (bt x0 x5) > 126 then (some false) else (impl_plainText.l0 k x0 (wrap64 (x5 + 1))))) else (none)) else (some true)

def impl_plainText.f (k : Nat) (a0 : ByteArray) (a1 : Int) : Option (Bool) := if (a0.size : Int) > a1 then (some false) else (impl_plainText.l0 k a0 0)

theorem impl_plainText.mono_l : ∀ k, (∀ y0 y1, LeO (impl_plainText.l0 k y0 y1) (impl_plainText.l0 (k + 1) y0 y1))
  | 0 => fun _ _ r h => by simp [impl_plainText.l0] at h
  | k + 1 => by
    have ih0 := impl_plainText.mono_l k
    · intro y0 y1
      unfold impl_plainText.l0
      repeat' first
      | (with_reducible exact ih0 _ _)
      | (with_reducible exact LeO.refl _)
      | (with_reducible exact LeO.none _)
      | (with_reducible refine LeO.ite ?_ ?_)
      | (with_reducible refine LeO.bind ?_ (fun _ => ?_))
      | exact ih0 _ _
      | exact LeO.none _
      | refine LeO.ite ?_ ?_
      | refine LeO.bind ?_ (fun _ => ?_)

theorem impl_plainText.mono : ∀ a0 a1 k, LeO (impl_plainText.f k a0 a1) (impl_plainText.f (k + 1) a0 a1) := by
  intro a0 a1 k
  have ih0 := impl_plainText.mono_l k
  unfold impl_plainText.f
  repeat' first
      | (with_reducible exact ih0 _ _)
      | (with_reducible exact LeO.refl _)
      | (with_reducible exact LeO.none _)
      | (with_reducible refine LeO.ite ?_ ?_)
      | (with_reducible refine LeO.bind ?_ (fun _ => ?_))
      | exact ih0 _ _
      | exact LeO.none _
      | refine LeO.ite ?_ ?_
      | refine LeO.bind ?_ (fun _ => ?_)

set_option maxHeartbeats 8000000 in
set_option maxRecDepth 100000 in
theorem impl_plainText.calls (k : Nat) (a0 : ByteArray) (a1 : Int) (r : Bool) (w : World) (h : impl_plainText.f k a0 a1 = some r) :
    Calls Tryd.prog 129 #[.string a0, .int .i64 a1] w fun e w' => e = .returned (.bool r) ∧ Drawn0 w w' := by
  have H : (if (a0.size : Int) > a1 then (some false) else (impl_plainText.l0 k a0 0)) = some r := h
  clear h
  by_cases c3 : (a0.size : Int) > a1
  · rw [if_pos c3] at H
    have c3b0 : decide (a1 < (a0.size : Int)) = true := decide_eq_true c3
    clear c3
    obtain rfl := Option.some.inj H
    go_enter Tryd.func129, Tryd.ntmps129
    go_wp2
    go_ret
    exact ⟨by first | rfl | (simp; done) | (simp [*]; done), by repeat (first | exact Drawn0.refl _ | apply Drawn0.step)⟩
  · rw [if_neg c3] at H
    have c3b0 : decide (a1 < (a0.size : Int)) = false := decide_eq_false c3
    clear c3
    have H' := Aside0.mk H
    clear H
    go_enter Tryd.func129, Tryd.ntmps129
    go_wp2
    go_loopg [5] k (fun kq v5 w' => ∃ (x5_1 : Int), v5 = .int .i64 x5_1 ∧ Aside0 (impl_plainText.l0 kq a0 x5_1 = some r) ∧ Aside0 (kq ≤ k) ∧ Drawn0 w w')
    case atStart => exact ⟨(0), (by first | rfl | (simp; done) | (simp [*]; done) | (simp; unfold wrap64; omega)), H', ⟨Nat.le_refl _⟩, by repeat (first | exact Drawn0.refl _ | apply Drawn0.step)⟩
    case round =>
      clear H'
      try clear c1
      try clear p2
      try clear c3
      try clear c3b0
      obtain ⟨x5_1, rfl, HA, HK1, ⟨m1, rfl⟩⟩ := hrel
      cases gk with
      | zero => exact absurd HA.out (by simp [impl_plainText.l0])
      | succ k1 =>
        have H := HA.out
        clear HA
        simp only [impl_plainText.l0] at H
        by_cases c4 : x5_1 < (a0.size : Int)
        · rw [if_pos c4] at H
          have c4b0 : decide (x5_1 < (a0.size : Int)) = true := decide_eq_true c4
          clear c4
          by_cases c5 : 0 ≤ x5_1
          · rw [if_pos c5] at H
            have c5b0 : decide (0 ≤ x5_1) = true := decide_eq_true c5
            clear c5
            by_cases c7 : (bt a0 x5_1) < 32
            · rw [if_pos c7] at H
              have c7b0 : decide ((bt a0 x5_1) < 32) = true := decide_eq_true c7
              clear c7
              obtain rfl := Option.some.inj H
              have p6 : 0 ≤ (x5_1 : Int) := of_decide_eq_true (by first | (with_reducible assumption) | assumption)
              have q6 : x5_1 < (a0.size : Int) := of_decide_eq_true (by first | (with_reducible assumption) | assumption)
              have hx6 := bt_at a0 x5_1
              replace p6 := eq_true p6
              replace q6 := eq_true q6
              go_wp2
              go_ret
              exact ⟨by first | rfl | (simp; done) | (simp [*]; done), by repeat (first | exact Drawn0.refl _ | apply Drawn0.step)⟩
            · rw [if_neg c7] at H
              have c7b0 : decide ((bt a0 x5_1) < 32) = false := decide_eq_false c7
              clear c7
              by_cases c9 : (bt a0 x5_1) > 126
              · rw [if_pos c9] at H
                have c9b0 : decide (126 < (bt a0 x5_1)) = true := decide_eq_true c9
                clear c9
                obtain rfl := Option.some.inj H
                have p6 : 0 ≤ (x5_1 : Int) := of_decide_eq_true (by first | (with_reducible assumption) | assumption)
                have q6 : x5_1 < (a0.size : Int) := of_decide_eq_true (by first | (with_reducible assumption) | assumption)
                have hx6 := bt_at a0 x5_1
                replace p6 := eq_true p6
                replace q6 := eq_true q6
                have p8 : 0 ≤ (x5_1 : Int) := of_decide_eq_true (by first | (with_reducible assumption) | assumption)
                have q8 : x5_1 < (a0.size : Int) := of_decide_eq_true (by first | (with_reducible assumption) | assumption)
                have hx8 := bt_at a0 x5_1
                replace p8 := eq_true p8
                replace q8 := eq_true q8
                go_wp2
                go_ret
                exact ⟨by first | rfl | (simp; done) | (simp [*]; done), by repeat (first | exact Drawn0.refl _ | apply Drawn0.step)⟩
              · rw [if_neg c9] at H
                have c9b0 : decide (126 < (bt a0 x5_1)) = false := decide_eq_false c9
                clear c9
                have H' := Aside0.mk H
                clear H
                have p6 : 0 ≤ (x5_1 : Int) := of_decide_eq_true (by first | (with_reducible assumption) | assumption)
                have q6 : x5_1 < (a0.size : Int) := of_decide_eq_true (by first | (with_reducible assumption) | assumption)
                have hx6 := bt_at a0 x5_1
                replace p6 := eq_true p6
                replace q6 := eq_true q6
                have p8 : 0 ≤ (x5_1 : Int) := of_decide_eq_true (by first | (with_reducible assumption) | assumption)
                have q8 : x5_1 < (a0.size : Int) := of_decide_eq_true (by first | (with_reducible assumption) | assumption)
                have hx8 := bt_at a0 x5_1
                replace p8 := eq_true p8
                replace q8 := eq_true q8
                go_wp2
                go_roundg k1
                case measure => have := HK1.out; omega
                case rel => exact ⟨(wrap64 (x5_1 + 1)), (by first | rfl | (simp; done) | (simp [*]; done) | (simp; unfold wrap64; omega)), H', ⟨by have := HK1.out; omega⟩, by repeat (first | exact Drawn0.refl _ | apply Drawn0.step)⟩
          · rw [if_neg c5] at H
            exact absurd H (by simp)
        · rw [if_neg c4] at H
          have c4b0 : decide (x5_1 < (a0.size : Int)) = false := decide_eq_false c4
          clear c4
          obtain rfl := Option.some.inj H
          go_wp2
          go_ret
          exact ⟨by first | rfl | (simp; done) | (simp [*]; done), by repeat (first | exact Drawn0.refl _ | apply Drawn0.step)⟩



/-! ### impl_GoodValue: function 96 -/

/-- The error texts. -/
def errL : List ByteArray := [⟨#[35, 78, 85, 76, 76, 33]⟩, ⟨#[35, 68, 73, 86, 47, 48, 33]⟩, ⟨#[35, 86, 65, 76, 85, 69, 33]⟩, ⟨#[35, 82, 69, 70, 33]⟩, ⟨#[35, 78, 65, 77, 69, 63]⟩, ⟨#[35, 78, 85, 77, 33]⟩, ⟨#[35, 78, 47, 65]⟩, ⟨#[35, 83, 80, 73, 76, 76, 33]⟩, ⟨#[35, 67, 89, 67, 76, 69, 33]⟩]

def errT (i : Nat) : ByteArray := rdOf ByteArray.empty errL i

def TabE (w : World) : Prop := ∀ i : Nat, i < 9 → w.cell? ⟨0, i, none⟩ = some (.string (errT i))

theorem TabE.below {w w' : World} (h : TabE w) (hb : Below w.heap.size w w') : TabE w' := fun m h1 => pw_cell_below hb (h m h1)

def Tab (w : World) : Prop := TabE w

theorem Tab.below {w w' : World} (h : Tab w) (hb : Below w.heap.size w w') : Tab w' := TabE.below h hb

theorem Tab.toE {w : World} (h : Tab w) : TabE w := h

/-! plain facts on whole numbers -/

theorem wrap_id {x : Int} (h1 : -9223372036854775808 ≤ x) (h2 : x ≤ 9223372036854775807) : wrap64 x = x := by
  unfold wrap64; omega

theorem td_pos {a b : Int} (h : 0 ≤ a) : a.tdiv b = a / b := Int.tdiv_eq_ediv_of_nonneg h

theorem td_neg {a b : Int} (h : a ≤ 0) : a.tdiv b = -((-a) / b) := by
  rw [← Int.tdiv_eq_ediv_of_nonneg (by omega : 0 ≤ -a), Int.neg_tdiv]; omega

theorem tm_pos {a b : Int} (h : 0 ≤ a) : a.tmod b = a % b := Int.tmod_eq_emod_of_nonneg h

theorem tm_neg {a b : Int} (h : a ≤ 0) : a.tmod b = -((-a) % b) := by
  rw [← Int.tmod_eq_emod_of_nonneg (by omega : 0 ≤ -a), Int.neg_tmod]; omega

theorem tm_zero (a b : Int) : a.tmod b = 0 ↔ a % b = 0 := by
  rw [← Int.dvd_iff_tmod_eq_zero, ← Int.dvd_iff_emod_eq_zero]

theorem ediv_is {a b q r : Int} (hb : 0 < b) (h : a = b * q + r) (h0 : 0 ≤ r) (h1 : r < b) : a / b = q := by
  rw [h, Int.add_comm, Int.add_mul_ediv_left _ _ (by omega), Int.ediv_eq_zero_of_lt h0 h1]; omega

theorem ediv_neg_of {a b : Int} (hb : 0 < b) (h : a.tmod b = 0) : a.tdiv b = a / b := by
  have e := Int.mul_tdiv_add_tmod a b
  rw [h] at e
  exact (ediv_is hb (q := a.tdiv b) (r := 0) (by omega) (by omega) hb).symm

theorem ediv_floor {a b : Int} (hb : 0 < b) (ha : a < 0) (h : a.tmod b ≠ 0) : a.tdiv b - 1 = a / b := by
  have e := Int.mul_tdiv_add_tmod a b
  have hm := tm_neg (a := a) (b := b) (by omega)
  have h0 := Int.emod_nonneg (-a) (by omega : b ≠ 0)
  have h1 := Int.emod_lt_of_pos (-a) hb
  refine (ediv_is hb (q := a.tdiv b - 1) (r := a.tmod b + b) ?_ (by omega) (by omega)).symm
  rw [Int.mul_sub]; omega

/-- The floor, as both programs reckon it. -/
theorem floor_is {a b : Int} (hb : 0 < b) (h1 : -4611686018427387904 ≤ a) (h2 : a ≤ 4611686018427387904) :
    (if b = 0 then (none) else (if (Int.tmod a b) = 0 then (some (wrap64 (Int.tdiv a b))) else (if ((decide (a < 0)) != (decide (b < 0))) = true then (some (wrap64 ((wrap64 (Int.tdiv a b)) - 1))) else (some (wrap64 (Int.tdiv a b)))))) = some (a / b) := by
  have hle : a / b ≤ 4611686018427387904 := by
    by_cases h : 0 ≤ a
    · exact Int.le_trans (Int.ediv_le_self b h) h2
    · have := Int.ediv_neg_of_neg_of_pos (by omega : a < 0) hb; omega
  have hge : -4611686018427387904 ≤ a / b := by
    by_cases h : 0 ≤ a
    · have := Int.ediv_nonneg h (by omega : 0 ≤ b); omega
    · exact Int.le_ediv_of_mul_le hb (by have : -4611686018427387904 * b ≤ -4611686018427387904 * 1 := by omega
                                         omega)
  rw [if_neg (by omega : ¬ b = 0)]
  by_cases hm : Int.tmod a b = 0
  · rw [if_pos hm, ediv_neg_of hb hm, wrap_id (by omega) (by omega)]
  · rw [if_neg hm]
    by_cases ha : a < 0
    · have e := ediv_floor hb ha hm
      rw [if_pos (by simp [ha]; omega), wrap_id (x := Int.tdiv a b) (by omega) (by omega), e, wrap_id (by omega) (by omega)]
    · rw [if_neg (by simp [ha]; omega), td_pos (by omega), wrap_id (by omega) (by omega)]


/-- Every byte of a text is printable. -/
def printB (s : ByteArray) : Bool := (bytesOf s).all fun c => decide (32 ≤ c ∧ c ≤ 126)

theorem bt_get (s : ByteArray) (i : Nat) (h : i < s.size) : (bytesOf s)[i]? = some (bt s i) := by
  rw [← rd_bytesOf]
  unfold rd
  rw [List.getD_eq_getElem?_getD, Int.toNat_natCast]
  rw [List.getElem?_eq_getElem (by rw [bytesOf_length]; exact h)]; rfl

/-- A loop that asks each byte of a text, and what it comes to. -/
theorem loop_bytes {F : Nat → Int → Option Bool} (s : ByteArray) (hs : s.size ≤ 9223372036854775806) (p : Int → Bool) (b : Bool)
    (hstep : ∀ (k : Nat) (i : Int), 0 ≤ i → i < s.size → F (k + 1) i = if p (bt s i) then F k (i + 1) else some false)
    (hend : ∀ k, F (k + 1) (s.size : Int) = some b) : ∀ (d k : Nat) (i : Nat), i + d = s.size → d < k → F k (i : Int) = some (((bytesOf s).drop i).all p && b) := by
  intro d
  induction d with
  | zero =>
    intro k i hi hk
    obtain ⟨k, rfl⟩ : ∃ m, k = m + 1 := ⟨k - 1, by omega⟩
    obtain rfl : i = s.size := by omega
    rw [hend, List.drop_of_length_le (by rw [bytesOf_length]; exact Nat.le_refl _)]; rfl
  | succ d ih =>
    intro k i hi hk
    obtain ⟨k, rfl⟩ : ∃ m, k = m + 1 := ⟨k - 1, by omega⟩
    have hlt : i < (bytesOf s).length := by rw [bytesOf_length]; omega
    rw [hstep k i (by omega) (by omega), List.drop_eq_getElem_cons hlt, List.all_cons]
    have e : (bytesOf s)[i] = bt s i := by
      have := bt_get s i (by omega)
      rw [List.getElem?_eq_getElem hlt] at this
      exact Option.some.inj this
    rw [e]
    cases hp : p (bt s i)
    · simp
    · rw [if_pos rfl, show ((i : Int) + 1) = ((i + 1 : Nat) : Int) from by omega, ih k (i + 1) (by omega) (by omega)]; simp


theorem specPrinted_is (s : ByteArray) (hs : s.size ≤ 1048576) (m : Int) (k : Nat) (hk : s.size < k) : spec_l4Printed.f k s m = some (printB s && decide ((s.size : Int) ≤ m)) := by
  unfold spec_l4Printed.f printB
  have h := loop_bytes (F := fun k i => spec_l4Printed.l0 k s m i) s (by omega) (fun c => decide (32 ≤ c ∧ c ≤ 126)) (decide ((s.size : Int) ≤ m)) ?_ ?_ s.size k 0 (by omega) hk
  · simpa using h
  · intro k i h0 h1
    simp only [spec_l4Printed.l0]
    rw [if_pos h1, if_pos h0, wrap_id (x := i + 1) (by omega) (by omega)]
    by_cases c1 : bt s i < 32
    · rw [if_pos c1, if_neg (by simp; omega)]
    · by_cases c2 : bt s i > 126
      · rw [if_neg c1, if_pos c2, if_neg (by simp; omega)]
      · rw [if_neg c1, if_neg c2, if_pos (by simp; omega)]
  · intro k
    simp only [spec_l4Printed.l0]
    rw [if_neg (by omega)]

theorem implPlain_is (s : ByteArray) (hs : s.size ≤ 1048576) (m : Int) (k : Nat) (hk : s.size < k) : impl_plainText.f k s m = some (printB s && decide ((s.size : Int) ≤ m)) := by
  unfold impl_plainText.f printB
  by_cases hm : (s.size : Int) > m
  · rw [if_pos hm, decide_eq_false (by omega : ¬ (s.size : Int) ≤ m)]; simp
  · rw [if_neg hm, decide_eq_true (by omega : (s.size : Int) ≤ m)]
    have h := loop_bytes (F := fun k i => impl_plainText.l0 k s i) s (by omega) (fun c => decide (32 ≤ c ∧ c ≤ 126)) true ?_ ?_ s.size k 0 (by omega) hk
    · simpa using h
    · intro k i h0 h1
      simp only [impl_plainText.l0]
      rw [if_pos h1, if_pos h0, wrap_id (x := i + 1) (by omega) (by omega)]
      by_cases c1 : bt s i < 32
      · rw [if_pos c1, if_neg (by simp; omega)]
      · by_cases c2 : bt s i > 126
        · rw [if_neg c1, if_pos c2, if_neg (by simp; omega)]
        · rw [if_neg c1, if_neg c2, if_pos (by simp; omega)]
    · intro k
      simp only [impl_plainText.l0]
      rw [if_neg (by omega)]


def goodDecB (n : Bool) (d e : Int) : Bool := decide ((n = false ∧ d = 0 ∧ e = 0) ∨ (1 ≤ d ∧ d ≤ 999999999999999 ∧ ¬ Int.tmod d 10 = 0 ∧ -300 ≤ e ∧ e ≤ 300))

theorem specGoodDec_is (n : Bool) (d e : Int) : spec_GoodDec.f n d e = some (goodDecB n d e) := by
  unfold spec_GoodDec.f goodDecB
  by_cases h0 : d = 0
  · subst h0; rw [if_pos rfl]
    cases n <;> by_cases he : e = 0 <;> simp [he]
  · rw [if_neg h0]
    by_cases h1 : d > 0
    · by_cases h2 : d < 1000000000000000
      · have h2' : d ≤ 999999999999999 := by omega
        have h1' : 1 ≤ d := by omega
        by_cases h3 : Int.tmod d 10 = 0
        · simp [h0, h1, h2, h3]
        · by_cases h4 : e ≥ -300 <;> by_cases h5 : e ≤ 300 <;> simp [h0, h1, h2, h3, h4, h5, h1', h2']
      · have h2' : ¬ d ≤ 999999999999999 := by omega
        simp [h0, h1, h2, h2']
    · have h1' : ¬ 1 ≤ d := by omega
      simp [h0, h1, h1']

theorem implGoodDec_is (n : Bool) (d e : Int) : impl_isGoodDec.f n d e = some (goodDecB n d e) := by
  unfold impl_isGoodDec.f goodDecB
  by_cases h0 : d = 0
  · subst h0
    cases n <;> by_cases he : e = 0 <;> simp [he]
  · by_cases h1 : 1 ≤ d <;> by_cases h2 : d ≤ 999999999999999 <;> by_cases h3 : Int.tmod d 10 = 0 <;> by_cases h4 : e ≥ -300 <;> by_cases h5 : e ≤ 300 <;> simp [h0, h1, h2, h3, h4, h5]


theorem bcell {W w1 : World} (hb : Below W.heap.size W w1) : (∀ b o, b < W.heap.size → w1.cell? ⟨b, o, none⟩ = W.cell? ⟨b, o, none⟩) ∧ (∀ b o, b < W.heap.size → w1.frozen? ⟨b, o, none⟩ = W.frozen? ⟨b, o, none⟩) :=
  ⟨fun b o h => hb.cell (p := ⟨b, o, none⟩) h, fun b o h => hb.frozen (p := ⟨b, o, none⟩) h⟩

/-- From the i-th error text on, is one the text? -/
def errFrom (s : ByteArray) (i : Nat) : Bool := (errL.drop i).any fun e => e.toList == s.toList

theorem errFrom_step (s : ByteArray) (i : Nat) (h : i < 9) : errFrom s i = ((errT i).toList == s.toList || errFrom s (i + 1)) := by
  unfold errFrom
  rw [List.drop_eq_getElem_cons (show i < errL.length from h), List.any_cons]
  have : errT i = errL[i]'h := by
    unfold errT rdOf; rw [Int.toNat_natCast]
    rw [List.getD_eq_getElem?_getD, List.getElem?_eq_getElem (show i < errL.length from h)]; rfl
  rw [this]; rfl

theorem errFrom_end (s : ByteArray) : errFrom s 9 = false := rfl

theorem specIn_is (s : ByteArray) : ∀ (d k i : Nat), i + d = 9 → d < k → spec_l4In.l0 k s errL 9 (i : Int) = some (errFrom s i) := by
  intro d
  induction d with
  | zero =>
    intro k i h hk
    obtain ⟨k, rfl⟩ : ∃ m, k = m + 1 := ⟨k - 1, by omega⟩
    obtain rfl : i = 9 := by omega
    simp only [spec_l4In.l0]; rfl
  | succ d ih =>
    intro k i h hk
    obtain ⟨k, rfl⟩ : ∃ m, k = m + 1 := ⟨k - 1, by omega⟩
    have hl : (errL.length : Int) = 9 := rfl
    simp only [spec_l4In.l0]
    rw [if_pos (by omega), if_pos (by omega), if_pos (by omega), errFrom_step s i (by omega)]
    show (if (errT i).toList = s.toList then _ else _) = _
    by_cases he : (errT i).toList = s.toList
    · rw [if_pos he, he]; simp
    · rw [if_neg he, wrap_id (x := (i : Int) + 1) (by omega) (by omega), show ((i : Int) + 1) = ((i + 1 : Nat) : Int) from by omega, ih k (i + 1) (by omega) (by omega)]
      rw [show ((errT i).toList == s.toList) = false from by simpa using he]; rfl

def zeroDec (n : Bool) (d e : Int) : Bool := !n && (d == 0 && e == 0)

/-- What GoodValue says. -/
def goodValB (k : Int) (n : Bool) (d e : Int) (t : ByteArray) : Bool :=
  if k = 0 then zeroDec n d e && (t.toList == ([] : List UInt8))
  else if k = 1 then (t.toList == ([] : List UInt8)) && goodDecB n d e
  else if k = 2 then zeroDec n d e && (printB t && decide ((t.size : Int) ≤ 1000))
  else if k = 3 then zeroDec n d e && ((t.toList == ([84, 82, 85, 69] : List UInt8)) || (t.toList == ([70, 65, 76, 83, 69] : List UInt8)))
  else if k = 4 then zeroDec n d e && errFrom t 0
  else false

theorem specGoodValue_is (k : Int) (n : Bool) (d e : Int) (t : ByteArray) (ht : t.size ≤ 1048576) (K : Nat) (hK : 1048590 ≤ K) : spec_GoodValue.f K k n d e t = some (goodValB k n d e t) := by
  unfold spec_GoodValue.f goodValB
  rw [specGoodDec_is, specPrinted_is t ht 1000 K (by omega)]
  have hin : spec_l4In.f K errL t = some (errFrom t 0) := by unfold spec_l4In.f; exact specIn_is t 9 K 0 (by omega) (by omega)
  have her : spec_l4Errors.f = some errL := rfl
  rw [her]
  simp only [Option.bind_some]
  rw [hin]
  simp only [Option.bind_some]
  by_cases h0 : k = 0
  · subst h0; simp [zeroDec]
  rw [if_neg h0, if_neg h0]
  by_cases h1 : k = 1
  · rw [if_pos h1, if_pos h1]
    by_cases hh : t.toList = ([] : List UInt8)
    · rw [if_pos hh, hh]; simp
    · rw [if_neg hh, show (t.toList == ([] : List UInt8)) = false from by simpa using hh]; rfl
  rw [if_neg h1, if_neg h1]
  have hz : (n || (!(d == 0) || (!(e == 0)))) = !zeroDec n d e := by unfold zeroDec; cases n <;> simp
  rw [hz]
  cases zeroDec n d e
  · simp
  · simp only [Bool.not_true, Bool.false_eq_true, if_false, Bool.true_and]
    by_cases h2 : k = 2
    · rw [if_pos h2, if_pos h2]
    rw [if_neg h2, if_neg h2]
    by_cases h3 : k = 3
    · rw [if_pos h3, if_pos h3]
      by_cases hh : t.toList = ([84, 82, 85, 69] : List UInt8)
      · rw [if_pos hh, hh]; simp
      · rw [if_neg hh, show (t.toList == ([84, 82, 85, 69] : List UInt8)) = false from by simpa using hh]; rfl
    rw [if_neg h3, if_neg h3]
    by_cases h4 : k = 4 <;> simp [h4]

def errCells : Array Value := #[.string (errT 0), .string (errT 1), .string (errT 2), .string (errT 3), .string (errT 4), .string (errT 5), .string (errT 6), .string (errT 7), .string (errT 8)]

theorem errIndex (j : Nat) (h : j < 9) (w : World) : (Instr.index 197 (.agg #[.string (errT 0), .string (errT 1), .string (errT 2), .string (errT 3), .string (errT 4), .string (errT 5), .string (errT 6), .string (errT 7), .string (errT 8)]) (.int .i64 (j : Int))).run Tryd.prog w = .ok (.string (errT j)) w := by
  rcases (by omega : j = 0 ∨ j = 1 ∨ j = 2 ∨ j = 3 ∨ j = 4 ∨ j = 5 ∨ j = 6 ∨ j = 7 ∨ j = 8) with rfl | rfl | rfl | rfl | rfl | rfl | rfl | rfl | rfl <;>
    simp [Instr.index, run_underlying Tryd.underlying197, asIntOf, go_sem]

set_option maxHeartbeats 4000000 in
theorem isError_calls (s : ByteArray) (w : World) (hT : Tab w) :
    Calls Tryd.prog 130 #[.string s] w fun e w' => e = .returned (.bool (errFrom s 0)) ∧ Drawn0 w w' := by
  have c0 := hT.toE 0 (by omega)
  have c1 := hT.toE 1 (by omega)
  have c2 := hT.toE 2 (by omega)
  have c3 := hT.toE 3 (by omega)
  have c4 := hT.toE 4 (by omega)
  have c5 := hT.toE 5 (by omega)
  have c6 := hT.toE 6 (by omega)
  have c7 := hT.toE 7 (by omega)
  have c8 := hT.toE 8 (by omega)
  clear hT
  go_enter Tryd.func130, Tryd.ntmps130
  go_wp2_with fail
  go_loopw [6] (fun i w' => ∃ j : Nat, j ≤ 9 ∧ i = .int .i64 j ∧ errFrom s j = errFrom s 0 ∧ w' = w) (fun i _ => 9 - (intOf i).toNat)
  case atStart => exact ⟨0, by omega, rfl, rfl, rfl⟩
  case round =>
    obtain ⟨j, hj, rfl, he, rfl⟩ := hrel
    have HE := Lib.hid he; clear he
    by_cases hlt : j < 9
    · have ix := errIndex j hlt
      by_cases hs : (errT j).toList = s.toList
      · have e1 : errFrom s j = true := by rw [errFrom_step s j hlt, hs]; simp
        have E1 := Lib.hid e1; clear e1
        go_wp2_with fail
        go_ret
        rw [← HE.out, E1.out]; exact ⟨rfl, Drawn0.refl _⟩
      · have e1 : errFrom s j = errFrom s (j + 1) := by
          rw [errFrom_step s j hlt, show ((errT j).toList == s.toList) = false from by simpa using hs]; rfl
        have E1 := Lib.hid e1; clear e1
        have hb : ((errT j).toList == s.toList) = false := by simpa using hs
        go_wp2_with fail
        go_roundw
        case rel => exact ⟨j + 1, by omega, by go_num, by rw [← E1.out]; exact HE.out, by first | rfl | trivial⟩
        case measure => simp [intOf]; omega
    · go_wp2_with fail
      go_ret
      obtain rfl : j = 9 := by omega
      rw [← HE.out]; exact ⟨rfl, Drawn0.refl _⟩

theorem zcases (n : Bool) (d e : Int) : (n = false ∧ d = 0 ∧ e = 0) ∨ n = true ∨ (n = false ∧ (d == 0) = false) ∨ (n = false ∧ d = 0 ∧ (e == 0) = false) := by
  cases n
  · by_cases h : d = 0
    · by_cases h2 : e = 0
      · exact .inl ⟨rfl, h, h2⟩
      · exact .inr (.inr (.inr ⟨rfl, h, by simpa using h2⟩))
    · exact .inr (.inr (.inl ⟨rfl, by simpa using h⟩))
  · exact .inr (.inl rfl)

theorem zd1 (d e : Int) : zeroDec true d e = false := rfl

theorem zd2 {d : Int} (e : Int) (h : (d == 0) = false) : zeroDec false d e = false := by unfold zeroDec; rw [h]; rfl

theorem zd3 {e : Int} (h : (e == 0) = false) : zeroDec false 0 e = false := by unfold zeroDec; rw [h]; rfl

theorem zd0 : zeroDec false 0 0 = true := rfl

set_option maxHeartbeats 8000000 in
theorem GoodValue_k0 (k : Int) (n : Bool) (d x : Int) (t : ByteArray) (ht : t.size ≤ 1048576) (w : World) (hT : Tab w) (hk : k = 0) :
    Calls Tryd.prog 96 #[.agg #[.int .i64 k, .bool n, .int .i64 d, .int .i64 x, .string t]] w fun e w' => e = .returned (.bool (zeroDec n d x && (t.toList == ([] : List UInt8)))) ∧ Below w.heap.size w w' := by
  have hbx : ∀ q, Below w.heap.size w ((w.alloc (.cells #[.int .i64 k, .bool n, .int .i64 d, .int .i64 x, .string t] 81)).drewN q) := fun q => pw_below_drewN (below_alloc (Below.refl _ _) _) q
  have hgd := implGoodDec_is n d x
  have hpl := implPlain_is t ht 1000 1048590 (by omega)
  have HB := Lib.hid hbx; have HGD := Lib.hid hgd; have HPL := Lib.hid hpl; have HT := Lib.hid hT; clear hbx hgd hpl hT ht
  subst hk
  rcases zcases n d x with ⟨rfl, rfl, rfl⟩ | rfl | ⟨rfl, hd⟩ | ⟨rfl, rfl, hx⟩
  · rw [zd0, Bool.true_and]
    clear HGD HPL
    cases hb : (t.toList == ([] : List UInt8))
    all_goals
      go_enter Tryd.func96, Tryd.ntmps96
      go_wp2_with fail
      go_ret
      exact ⟨rfl, HB.out 0⟩
  · rw [zd1]
    clear HGD HPL
    go_enter Tryd.func96, Tryd.ntmps96
    go_wp2_with fail
    go_ret
    exact ⟨rfl, HB.out 0⟩
  · rw [zd2 x hd]
    clear HGD HPL
    go_enter Tryd.func96, Tryd.ntmps96
    go_wp2_with fail
    go_ret
    exact ⟨rfl, HB.out 0⟩
  · rw [zd3 hx]
    clear HGD HPL
    go_enter Tryd.func96, Tryd.ntmps96
    go_wp2_with fail
    go_ret
    exact ⟨rfl, HB.out 0⟩

set_option maxHeartbeats 8000000 in
theorem GoodValue_k1 (k : Int) (n : Bool) (d x : Int) (t : ByteArray) (ht : t.size ≤ 1048576) (w : World) (hT : Tab w) (hk : k = 1) :
    Calls Tryd.prog 96 #[.agg #[.int .i64 k, .bool n, .int .i64 d, .int .i64 x, .string t]] w fun e w' => e = .returned (.bool ((t.toList == ([] : List UInt8)) && goodDecB n d x)) ∧ Below w.heap.size w w' := by
  have hbx : ∀ q, Below w.heap.size w ((w.alloc (.cells #[.int .i64 k, .bool n, .int .i64 d, .int .i64 x, .string t] 81)).drewN q) := fun q => pw_below_drewN (below_alloc (Below.refl _ _) _) q
  have hgd := implGoodDec_is n d x
  have hpl := implPlain_is t ht 1000 1048590 (by omega)
  have HB := Lib.hid hbx; have HGD := Lib.hid hgd; have HPL := Lib.hid hpl; have HT := Lib.hid hT; clear hbx hgd hpl hT ht
  subst hk
  cases hb : (t.toList == ([] : List UInt8))
  · clear HGD HPL
    go_enter Tryd.func96, Tryd.ntmps96
    go_wp2_with fail
    go_ret
    exact ⟨rfl, HB.out 0⟩
  · rw [Bool.true_and]
    clear HPL
    go_enter Tryd.func96, Tryd.ntmps96
    go_wp2_with fail
    refine (impl_isGoodDec.calls _ _ _ _ _ HGD.out).mono ?_; rintro e w2 ⟨rfl, hd⟩; have HD := Lib.hid hd; clear hd
    go_wp2_with fail
    go_ret
    exact ⟨rfl, below_step (HB.out 0) HD.out⟩

set_option maxHeartbeats 8000000 in
theorem GoodValue_k2 (k : Int) (n : Bool) (d x : Int) (t : ByteArray) (ht : t.size ≤ 1048576) (w : World) (hT : Tab w) (hk : k = 2) :
    Calls Tryd.prog 96 #[.agg #[.int .i64 k, .bool n, .int .i64 d, .int .i64 x, .string t]] w fun e w' => e = .returned (.bool (zeroDec n d x && (printB t && decide ((t.size : Int) ≤ 1000)))) ∧ Below w.heap.size w w' := by
  have hbx : ∀ q, Below w.heap.size w ((w.alloc (.cells #[.int .i64 k, .bool n, .int .i64 d, .int .i64 x, .string t] 81)).drewN q) := fun q => pw_below_drewN (below_alloc (Below.refl _ _) _) q
  have hgd := implGoodDec_is n d x
  have hpl := implPlain_is t ht 1000 1048590 (by omega)
  have HB := Lib.hid hbx; have HGD := Lib.hid hgd; have HPL := Lib.hid hpl; have HT := Lib.hid hT; clear hbx hgd hpl hT ht
  subst hk
  rcases zcases n d x with ⟨rfl, rfl, rfl⟩ | rfl | ⟨rfl, hd⟩ | ⟨rfl, rfl, hx⟩
  · rw [zd0, Bool.true_and]
    clear HGD
    go_enter Tryd.func96, Tryd.ntmps96
    go_wp2_with fail
    refine (impl_plainText.calls _ _ _ _ _ HPL.out).mono ?_; rintro e w2 ⟨rfl, hd⟩; have HD := Lib.hid hd.below; clear hd
    go_wp2_with fail
    go_ret
    exact ⟨rfl, below_step (HB.out 0) HD.out⟩
  · rw [zd1]
    clear HGD HPL
    go_enter Tryd.func96, Tryd.ntmps96
    go_wp2_with fail
    go_ret
    exact ⟨rfl, HB.out 0⟩
  · rw [zd2 x hd]
    clear HGD HPL
    go_enter Tryd.func96, Tryd.ntmps96
    go_wp2_with fail
    go_ret
    exact ⟨rfl, HB.out 0⟩
  · rw [zd3 hx]
    clear HGD HPL
    go_enter Tryd.func96, Tryd.ntmps96
    go_wp2_with fail
    go_ret
    exact ⟨rfl, HB.out 0⟩

set_option maxHeartbeats 8000000 in
theorem GoodValue_k3 (k : Int) (n : Bool) (d x : Int) (t : ByteArray) (ht : t.size ≤ 1048576) (w : World) (hT : Tab w) (hk : k = 3) :
    Calls Tryd.prog 96 #[.agg #[.int .i64 k, .bool n, .int .i64 d, .int .i64 x, .string t]] w fun e w' => e = .returned (.bool (zeroDec n d x && ((t.toList == ([84, 82, 85, 69] : List UInt8)) || (t.toList == ([70, 65, 76, 83, 69] : List UInt8))))) ∧ Below w.heap.size w w' := by
  have hbx : ∀ q, Below w.heap.size w ((w.alloc (.cells #[.int .i64 k, .bool n, .int .i64 d, .int .i64 x, .string t] 81)).drewN q) := fun q => pw_below_drewN (below_alloc (Below.refl _ _) _) q
  have hgd := implGoodDec_is n d x
  have hpl := implPlain_is t ht 1000 1048590 (by omega)
  have HB := Lib.hid hbx; have HGD := Lib.hid hgd; have HPL := Lib.hid hpl; have HT := Lib.hid hT; clear hbx hgd hpl hT ht
  subst hk
  rcases zcases n d x with ⟨rfl, rfl, rfl⟩ | rfl | ⟨rfl, hd⟩ | ⟨rfl, rfl, hx⟩
  · rw [zd0, Bool.true_and]
    clear HGD HPL
    cases hb : (t.toList == ([84, 82, 85, 69] : List UInt8))
    · cases hb2 : (t.toList == ([70, 65, 76, 83, 69] : List UInt8))
      all_goals
        go_enter Tryd.func96, Tryd.ntmps96
        go_wp2_with fail
        go_ret
        exact ⟨rfl, HB.out 0⟩
    · go_enter Tryd.func96, Tryd.ntmps96
      go_wp2_with fail
      go_ret
      exact ⟨rfl, HB.out 0⟩
  · rw [zd1]
    clear HGD HPL
    go_enter Tryd.func96, Tryd.ntmps96
    go_wp2_with fail
    go_ret
    exact ⟨rfl, HB.out 0⟩
  · rw [zd2 x hd]
    clear HGD HPL
    go_enter Tryd.func96, Tryd.ntmps96
    go_wp2_with fail
    go_ret
    exact ⟨rfl, HB.out 0⟩
  · rw [zd3 hx]
    clear HGD HPL
    go_enter Tryd.func96, Tryd.ntmps96
    go_wp2_with fail
    go_ret
    exact ⟨rfl, HB.out 0⟩

set_option maxHeartbeats 8000000 in
theorem GoodValue_k4 (k : Int) (n : Bool) (d x : Int) (t : ByteArray) (ht : t.size ≤ 1048576) (w : World) (hT : Tab w) (hk : k = 4) :
    Calls Tryd.prog 96 #[.agg #[.int .i64 k, .bool n, .int .i64 d, .int .i64 x, .string t]] w fun e w' => e = .returned (.bool (zeroDec n d x && errFrom t 0)) ∧ Below w.heap.size w w' := by
  have hbx : ∀ q, Below w.heap.size w ((w.alloc (.cells #[.int .i64 k, .bool n, .int .i64 d, .int .i64 x, .string t] 81)).drewN q) := fun q => pw_below_drewN (below_alloc (Below.refl _ _) _) q
  have hgd := implGoodDec_is n d x
  have hpl := implPlain_is t ht 1000 1048590 (by omega)
  have HB := Lib.hid hbx; have HGD := Lib.hid hgd; have HPL := Lib.hid hpl; have HT := Lib.hid hT; clear hbx hgd hpl hT ht
  have hie := fun w' (h : Tab w') => isError_calls t w' h
  generalize errFrom t 0 = E at *
  have HIE := Lib.hid hie; clear hie
  subst hk
  rcases zcases n d x with ⟨rfl, rfl, rfl⟩ | rfl | ⟨rfl, hd⟩ | ⟨rfl, rfl, hx⟩
  · rw [zd0, Bool.true_and]
    clear HGD HPL
    go_enter Tryd.func96, Tryd.ntmps96
    go_wp2_with fail
    refine (HIE.out _ (HT.out.below (HB.out 0))).mono ?_; rintro e w2 ⟨rfl, hd⟩; have HD := Lib.hid hd.below; clear hd
    go_wp2_with fail
    go_ret
    exact ⟨rfl, below_step (HB.out 0) HD.out⟩
  · rw [zd1]
    clear HGD HPL
    go_enter Tryd.func96, Tryd.ntmps96
    go_wp2_with fail
    go_ret
    exact ⟨rfl, HB.out 0⟩
  · rw [zd2 x hd]
    clear HGD HPL
    go_enter Tryd.func96, Tryd.ntmps96
    go_wp2_with fail
    go_ret
    exact ⟨rfl, HB.out 0⟩
  · rw [zd3 hx]
    clear HGD HPL
    go_enter Tryd.func96, Tryd.ntmps96
    go_wp2_with fail
    go_ret
    exact ⟨rfl, HB.out 0⟩

set_option maxHeartbeats 8000000 in
theorem GoodValue_k5 (k : Int) (n : Bool) (d x : Int) (t : ByteArray) (ht : t.size ≤ 1048576) (w : World) (hT : Tab w) (h0 : (k == 0) = false) (h1 : (k == 1) = false) (h2 : (k == 2) = false) (h3 : (k == 3) = false) (h4 : (k == 4) = false) :
    Calls Tryd.prog 96 #[.agg #[.int .i64 k, .bool n, .int .i64 d, .int .i64 x, .string t]] w fun e w' => e = .returned (.bool (false)) ∧ Below w.heap.size w w' := by
  have hbx : ∀ q, Below w.heap.size w ((w.alloc (.cells #[.int .i64 k, .bool n, .int .i64 d, .int .i64 x, .string t] 81)).drewN q) := fun q => pw_below_drewN (below_alloc (Below.refl _ _) _) q
  have hgd := implGoodDec_is n d x
  have hpl := implPlain_is t ht 1000 1048590 (by omega)
  have HB := Lib.hid hbx; have HGD := Lib.hid hgd; have HPL := Lib.hid hpl; have HT := Lib.hid hT; clear hbx hgd hpl hT ht
  clear HGD HPL
  go_enter Tryd.func96, Tryd.ntmps96
  go_wp2_with fail
  go_ret
  exact ⟨rfl, HB.out 0⟩

theorem GoodValue_calls (k : Int) (n : Bool) (d x : Int) (t : ByteArray) (ht : t.size ≤ 1048576) (w : World) (hT : Tab w) :
    Calls Tryd.prog 96 #[.agg #[.int .i64 k, .bool n, .int .i64 d, .int .i64 x, .string t]] w fun e w' => e = .returned (.bool (goodValB k n d x t)) ∧ Below w.heap.size w w' := by
  unfold goodValB
  by_cases h0 : k = 0
  · rw [if_pos h0]; exact GoodValue_k0 k n d x t ht w hT h0
  rw [if_neg h0]
  by_cases h1 : k = 1
  · rw [if_pos h1]; exact GoodValue_k1 k n d x t ht w hT h1
  rw [if_neg h1]
  by_cases h2 : k = 2
  · rw [if_pos h2]; exact GoodValue_k2 k n d x t ht w hT h2
  rw [if_neg h2]
  by_cases h3 : k = 3
  · rw [if_pos h3]; exact GoodValue_k3 k n d x t ht w hT h3
  rw [if_neg h3]
  by_cases h4 : k = 4
  · rw [if_pos h4]; exact GoodValue_k4 k n d x t ht w hT h4
  rw [if_neg h4]
  exact GoodValue_k5 k n d x t ht w hT (by simpa using h0) (by simpa using h1) (by simpa using h2) (by simpa using h3) (by simpa using h4)

def impl_GoodValue.f (a0_0 : Int) (a0_1 : Bool) (a0_2 : Int) (a0_3 : Int) (a0_4 : ByteArray) : Option Bool := if a0_4.size ≤ 1048576 then some (goodValB a0_0 a0_1 a0_2 a0_3 a0_4) else none

theorem impl_GoodValue.calls (a0_0 : Int) (a0_1 : Bool) (a0_2 : Int) (a0_3 : Int) (a0_4 : ByteArray) (r : Bool) (w : World) (hT : Tab w) (h : impl_GoodValue.f a0_0 a0_1 a0_2 a0_3 a0_4 = some r) :
    Calls Tryd.prog 96 #[.agg #[.int .i64 a0_0, .bool a0_1, .int .i64 a0_2, .int .i64 a0_3, .string a0_4]] w fun e w' => e = .returned (.bool r) ∧ Below w.heap.size w w' := by
  unfold impl_GoodValue.f at h
  by_cases ht : a0_4.size ≤ 1048576
  · rw [if_pos ht] at h
    obtain rfl := Option.some.inj h
    exact GoodValue_calls a0_0 a0_1 a0_2 a0_3 a0_4 ht w hT
  · rw [if_neg ht] at h; cases h




/-! ### impl_GoodGrid: function 55 -/

mutual
def impl_GoodGrid.j0 : Nat → Bool → Int → Int → List (S81) → Option (Bool)
  | 0, _, _, _, _ => none
  | k + 1, x41, x197000, x197001, x197002 => if x41 = true then (some false) else (impl_GoodGrid.l0 k x197002 (x197002.length : Int) 0)
def impl_GoodGrid.l0 : Nat → List (S81) → Int → Int → Option (Bool)
  | 0, _, _, _ => none
  | k + 1, x43, x44, x45 => if x45 < x44 then (if 0 ≤ x45 then (if x45 < (x43.length : Int) then ((impl_GoodValue.f ((rd_T81 x43 x45).f0) ((rd_T81 x43 x45).f1.f0) ((rd_T81 x43 x45).f1.f1) ((rd_T81 x43 x45).f1.f2) ((rd_T81 x43 x45).f2)).bind fun t199 => (if t199 = true then (impl_GoodGrid.l0 k x43 x44 (wrap64 (x45 + 1))) else (some false))) else (none)) else (none)) else (some true)
end

def impl_GoodGrid.f (k : Nat) (a0_0 : Int) (a0_1 : Int) (l0_2 : List (S81)) : Option (Bool) := if a0_0 < 1 then (impl_GoodGrid.j0 k true a0_0 a0_1 l0_2) else (if a0_1 < 1 then (impl_GoodGrid.j0 k true a0_0 a0_1 l0_2) else (if a0_0 > 2000 then (impl_GoodGrid.j0 k true a0_0 a0_1 l0_2) else (if a0_1 > 2000 then (impl_GoodGrid.j0 k true a0_0 a0_1 l0_2) else (if (wrap64 (a0_0 * a0_1)) > 2000 then (impl_GoodGrid.j0 k true a0_0 a0_1 l0_2) else (impl_GoodGrid.j0 k ((l0_2.length : Int) != (wrap64 (a0_0 * a0_1))) a0_0 a0_1 l0_2)))))

theorem impl_GoodGrid.mono_l : ∀ k, (∀ y0 y1 y2 y3, LeO (impl_GoodGrid.j0 k y0 y1 y2 y3) (impl_GoodGrid.j0 (k + 1) y0 y1 y2 y3)) ∧ (∀ y0 y1 y2, LeO (impl_GoodGrid.l0 k y0 y1 y2) (impl_GoodGrid.l0 (k + 1) y0 y1 y2))
  | 0 => ⟨fun _ _ _ _ r h => by simp [impl_GoodGrid.j0] at h, fun _ _ _ r h => by simp [impl_GoodGrid.l0] at h⟩
  | k + 1 => by
    obtain ⟨ih0, ih1⟩ := impl_GoodGrid.mono_l k
    refine ⟨?_, ?_⟩
    · intro y0 y1 y2 y3
      unfold impl_GoodGrid.j0
      repeat' first
      | (with_reducible exact ih0 _ _ _ _)
      | (with_reducible exact ih1 _ _ _)
      | (with_reducible exact LeO.refl _)
      | (with_reducible exact LeO.none _)
      | (with_reducible refine LeO.ite ?_ ?_)
      | (with_reducible refine LeO.bind ?_ (fun _ => ?_))
      | exact ih0 _ _ _ _
      | exact ih1 _ _ _
      | exact LeO.none _
      | refine LeO.ite ?_ ?_
      | refine LeO.bind ?_ (fun _ => ?_)
    · intro y0 y1 y2
      unfold impl_GoodGrid.l0
      repeat' first
      | (with_reducible exact ih0 _ _ _ _)
      | (with_reducible exact ih1 _ _ _)
      | (with_reducible exact LeO.refl _)
      | (with_reducible exact LeO.none _)
      | (with_reducible refine LeO.ite ?_ ?_)
      | (with_reducible refine LeO.bind ?_ (fun _ => ?_))
      | exact ih0 _ _ _ _
      | exact ih1 _ _ _
      | exact LeO.none _
      | refine LeO.ite ?_ ?_
      | refine LeO.bind ?_ (fun _ => ?_)

theorem impl_GoodGrid.mono : ∀ a0 a1 a2 k, LeO (impl_GoodGrid.f k a0 a1 a2) (impl_GoodGrid.f (k + 1) a0 a1 a2) := by
  intro a0 a1 a2 k
  obtain ⟨ih0, ih1⟩ := impl_GoodGrid.mono_l k
  unfold impl_GoodGrid.f
  repeat' first
      | (with_reducible exact ih0 _ _ _ _)
      | (with_reducible exact ih1 _ _ _)
      | (with_reducible exact LeO.refl _)
      | (with_reducible exact LeO.none _)
      | (with_reducible refine LeO.ite ?_ ?_)
      | (with_reducible refine LeO.bind ?_ (fun _ => ?_))
      | exact ih0 _ _ _ _
      | exact ih1 _ _ _
      | exact LeO.none _
      | refine LeO.ite ?_ ?_
      | refine LeO.bind ?_ (fun _ => ?_)

end Go.Proofs.YtjemnnndifeagaaDoor.PFnExactGoodPivot
