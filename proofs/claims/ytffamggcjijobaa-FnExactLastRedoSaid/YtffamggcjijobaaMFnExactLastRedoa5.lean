/- Functions of the program as Lean functions, and proofs that the Go code comes to their answers: for the law FnExactLastRedo; made out of the print by a program of mine (doorprint.py), with walks of my own in the place of some functions. No conditions but each theorem's own. -/
import Derived.Test.YtffamggcjijobaaMFnExactLastRedoa0
import Derived.Test.YtffamggcjijobaaMFnExactLastRedoa1
import Derived.Test.YtffamggcjijobaaMFnExactLastRedoa2
import Derived.Test.YtffamggcjijobaaMFnExactLastRedoa4
import Derived.IntWalk
import Derived.Lib.Hide
import Derived.Maps.OwnSet
namespace Go.Proofs.Ytffamggcjijobaa.PFnExactLastRedo
open Go.RowKit Go.Proofs.YtffamggcjijobaaW.PrintWords Go.Proofs.YtffamggcjijobaaW.PrintLast Go.Proofs.YtffamggcjijobaaW.PrintMore
attribute [local go_sem] max2_int min2_int max_two min_two max_three min_three max_four min_four   -- for this text's walks alone
set_option linter.unusedVariables false
set_option linter.unusedSimpArgs false

/-! ### impl_asSaid: function 27 -/
mutual
def impl_asSaid.l0 : Nat → List (S41) → Int → Int → Option (Bool)
  | 0, _, _, _ => none
  | k + 1, x10, x11, x12 => if x12 < x11 then (if 0 ≤ x12 then (if x12 < (x10.length : Int) then (if ((rd_T41 x10 x12).f0) = 0 then (if (((rd_T41 x10 x12).f1).length : Int) < 1 then (impl_asSaid.j1 k x10 x11 x12 true ((rd_T41 x10 x12).f0) ((rd_T41 x10 x12).f1)) else (if (((rd_T41 x10 x12).f1).length : Int) > 20 then (impl_asSaid.j1 k x10 x11 x12 true ((rd_T41 x10 x12).f0) ((rd_T41 x10 x12).f1)) else (impl_asSaid.j1 k x10 x11 x12 false ((rd_T41 x10 x12).f0) ((rd_T41 x10 x12).f1)))) else (if (((rd_T41 x10 x12).f1).length : Int) = 0 then (if ((rd_T41 x10 x12).f0) < 1 then (impl_asSaid.j1 k x10 x11 x12 true ((rd_T41 x10 x12).f0) ((rd_T41 x10 x12).f1)) else (impl_asSaid.j1 k x10 x11 x12 (decide (((rd_T41 x10 x12).f0) > x12)) ((rd_T41 x10 x12).f0) ((rd_T41 x10 x12).f1))) else (impl_asSaid.j1 k x10 x11 x12 true ((rd_T41 x10 x12).f0) ((rd_T41 x10 x12).f1)))) else (none)) else (none)) else (some true)
def impl_asSaid.j1 : Nat → List (S41) → Int → Int → Bool → Int → List (S51) → Option (Bool)
  | 0, _, _, _, _, _, _ => none
  | k + 1, x10, x11, x12, x53, x169000, x169001 => if x53 = true then (some false) else (impl_asSaid.l1 k x10 x11 x12 x169001 (x169001.length : Int) 0)
def impl_asSaid.l1 : Nat → List (S41) → Int → Int → List (S51) → Int → Int → Option (Bool)
  | 0, _, _, _, _, _, _ => none
  | k + 1, x10, x11, x12, x55, x56, x57 => if x57 < x56 then (if 0 ≤ x57 then (if x57 < (x55.length : Int) then ((impl_place_good.f ((rd_T51 x55 x57).f0) ((rd_T51 x55 x57).f1)).bind fun t171 => (if t171 = true then (impl_asSaid.l1 k x10 x11 x12 x55 x56 (wrap64 (x57 + 1))) else (some false))) else (none)) else (none)) else (impl_asSaid.l0 k x10 x11 (wrap64 (x12 + 1)))
end
def impl_asSaid.f (k : Nat) (l0 : List (S41)) : Option (Bool) := if (l0.length : Int) > 60 then (some false) else (impl_asSaid.l0 k l0 (l0.length : Int) 0)
theorem impl_asSaid.mono_l : ∀ k, (∀ y0 y1 y2, LeO (impl_asSaid.l0 k y0 y1 y2) (impl_asSaid.l0 (k + 1) y0 y1 y2)) ∧ (∀ y0 y1 y2 y3 y4 y5, LeO (impl_asSaid.j1 k y0 y1 y2 y3 y4 y5) (impl_asSaid.j1 (k + 1) y0 y1 y2 y3 y4 y5)) ∧ (∀ y0 y1 y2 y3 y4 y5, LeO (impl_asSaid.l1 k y0 y1 y2 y3 y4 y5) (impl_asSaid.l1 (k + 1) y0 y1 y2 y3 y4 y5))
  | 0 => ⟨fun _ _ _ r h => by simp [impl_asSaid.l0] at h, fun _ _ _ _ _ _ r h => by simp [impl_asSaid.j1] at h, fun _ _ _ _ _ _ r h => by simp [impl_asSaid.l1] at h⟩
  | k + 1 => by
    obtain ⟨ih0, ih1, ih2⟩ := impl_asSaid.mono_l k
    refine ⟨?_, ?_, ?_⟩
    · intro y0 y1 y2
      unfold impl_asSaid.l0
      repeat' first
      | (with_reducible exact ih0 _ _ _)
      | (with_reducible exact ih1 _ _ _ _ _ _)
      | (with_reducible exact ih2 _ _ _ _ _ _)
      | (with_reducible exact LeO.refl _)
      | (with_reducible exact LeO.none _)
      | (with_reducible refine LeO.ite ?_ ?_)
      | (with_reducible refine LeO.bind ?_ (fun _ => ?_))
      | exact ih0 _ _ _
      | exact ih1 _ _ _ _ _ _
      | exact ih2 _ _ _ _ _ _
      | exact LeO.none _
      | refine LeO.ite ?_ ?_
      | refine LeO.bind ?_ (fun _ => ?_)
    · intro y0 y1 y2 y3 y4 y5
      unfold impl_asSaid.j1
      repeat' first
      | (with_reducible exact ih0 _ _ _)
      | (with_reducible exact ih1 _ _ _ _ _ _)
      | (with_reducible exact ih2 _ _ _ _ _ _)
      | (with_reducible exact LeO.refl _)
      | (with_reducible exact LeO.none _)
      | (with_reducible refine LeO.ite ?_ ?_)
      | (with_reducible refine LeO.bind ?_ (fun _ => ?_))
      | exact ih0 _ _ _
      | exact ih1 _ _ _ _ _ _
      | exact ih2 _ _ _ _ _ _
      | exact LeO.none _
      | refine LeO.ite ?_ ?_
      | refine LeO.bind ?_ (fun _ => ?_)
    · intro y0 y1 y2 y3 y4 y5
      unfold impl_asSaid.l1
      repeat' first
      | (with_reducible exact ih0 _ _ _)
      | (with_reducible exact ih1 _ _ _ _ _ _)
      | (with_reducible exact ih2 _ _ _ _ _ _)
      | (with_reducible exact LeO.refl _)
      | (with_reducible exact LeO.none _)
      | (with_reducible refine LeO.ite ?_ ?_)
      | (with_reducible refine LeO.bind ?_ (fun _ => ?_))
      | exact ih0 _ _ _
      | exact ih1 _ _ _ _ _ _
      | exact ih2 _ _ _ _ _ _
      | exact LeO.none _
      | refine LeO.ite ?_ ?_
      | refine LeO.bind ?_ (fun _ => ?_)
theorem impl_asSaid.mono : ∀ a0 k, LeO (impl_asSaid.f k a0) (impl_asSaid.f (k + 1) a0) := by
  intro a0 k
  obtain ⟨ih0, ih1, ih2⟩ := impl_asSaid.mono_l k
  unfold impl_asSaid.f
  repeat' first
      | (with_reducible exact ih0 _ _ _)
      | (with_reducible exact ih1 _ _ _ _ _ _)
      | (with_reducible exact ih2 _ _ _ _ _ _)
      | (with_reducible exact LeO.refl _)
      | (with_reducible exact LeO.none _)
      | (with_reducible refine LeO.ite ?_ ?_)
      | (with_reducible refine LeO.bind ?_ (fun _ => ?_))
      | exact ih0 _ _ _
      | exact ih1 _ _ _ _ _ _
      | exact ih2 _ _ _ _ _ _
      | exact LeO.none _
      | refine LeO.ite ?_ ?_
      | refine LeO.bind ?_ (fun _ => ?_)
set_option maxHeartbeats 8000000 in
set_option maxRecDepth 100000 in
theorem impl_asSaid.calls (k : Nat) (A0 : Option Addr) (c0 : Nat) (l0 : List (S41)) (r : Bool) (w : World) (hr0 : Kd.C k41 w A0 l0.length l0) (hc0 : l0.length ≤ c0) (h : impl_asSaid.f k l0 = some r) :
    Calls Try.prog 27 #[.slice A0 l0.length c0] w fun e w' => e = .returned (.bool r) ∧ Below w.heap.size w w' := by
  have hu41 := Try.underlying41
  have hu51 := Try.underlying51
  have hu60 := Try.underlying60
  have HR0 := Aside0.mk hr0
  have HC0 := Aside0.mk hc0
  clear hr0 hc0
  have HB := Aside0.mk (Below.refl w.heap.size w)
  have H : (if (l0.length : Int) > 60 then (some false) else (impl_asSaid.l0 k l0 (l0.length : Int) 0)) = some r := h
  clear h
  by_cases c2 : (l0.length : Int) > 60
  · rw [if_pos c2] at H
    have c2b0 : decide (60 < (l0.length : Int)) = true := decide_eq_true c2
    (try (have c2b9167_1 := c2b0; simp only [hl167_1] at c2b9167_1))
    have c2b1 : decide (60 < l0.length) = true := decide_eq_true (by omega)
    clear c2
    obtain rfl := Option.some.inj H
    go_enter Try.func27, Try.ntmps27
    go_wp2
    go_ret
    exact ⟨by first | rfl | (simp [errW_none, errW_some] <;> rfl) | (simp [*, errW_none, errW_some] <;> rfl), by repeat (first | (with_reducible first | exact HB.out | apply below_alloc | apply pw_below_drewN | apply below_drew1) | exact HB.out)⟩
  · rw [if_neg c2] at H
    have c2b0 : decide (60 < (l0.length : Int)) = false := decide_eq_false c2
    (try (have c2b9167_1 := c2b0; simp only [hl167_1] at c2b9167_1))
    have c2b1 : decide (60 < l0.length) = false := decide_eq_false (by omega)
    clear c2
    have H' := Aside0.mk H
    clear H
    go_enter Try.func27, Try.ntmps27
    go_wp2
    go_loopg [12] k (fun kq v12 w' => ∃ (x12_1 : Int), v12 = .int .i64 x12_1 ∧ Aside0 (impl_asSaid.l0 kq l0 (l0.length : Int) x12_1 = some r) ∧ Aside0 (kq ≤ k) ∧ Aside0 (Below w.heap.size w w'))
    case atStart => exact ⟨(0), (by first | rfl | (simp; done) | (simp [*]; done) | (simp; unfold wrap64; omega)), H', ⟨Nat.le_refl _⟩, ⟨by repeat (first | (with_reducible first | exact HB.out | apply below_alloc | apply pw_below_drewN | apply below_drew1) | exact HB.out)⟩⟩
    case round =>
      clear H'
      try clear c2
      try clear c2b0
      try clear c2b1
      try clear p2
      obtain ⟨x12_1, rfl, HA, HK1, HB⟩ := hrel
      cases gk with
      | zero => exact absurd HA.out (by simp [impl_asSaid.l0])
      | succ k1 =>
        have H := HA.out
        clear HA
        simp only [impl_asSaid.l0] at H
        by_cases c3 : x12_1 < (l0.length : Int)
        · rw [if_pos c3] at H
          have c3b0 : decide (x12_1 < (l0.length : Int)) = true := decide_eq_true c3
          (try (have c3b9167_1 := c3b0; simp only [hl167_1] at c3b9167_1))
          clear c3
          by_cases c4 : 0 ≤ x12_1
          · rw [if_pos c4] at H
            have c4b0 : decide (0 ≤ x12_1) = true := decide_eq_true c4
            clear c4
            by_cases c5 : x12_1 < (l0.length : Int)
            · rw [if_pos c5] at H
              have c5b0 : decide (x12_1 < (l0.length : Int)) = true := decide_eq_true c5
              (try (have c5b9167_1 := c5b0; simp only [hl167_1] at c5b9167_1))
              clear c5
              have HC6 := Aside0.mk H
              clear H
              have p167 : 0 ≤ (x12_1 : Int) := of_decide_eq_true (by first | (with_reducible assumption) | assumption)
              have q167 : x12_1 < (l0.length : Int) := of_decide_eq_true (by first | (with_reducible assumption) | assumption)
              obtain ⟨ad167, A167_1, c167_1, e167, hx167_0, hx167_1, hl167_1, hi167_1⟩ := at_T41 HR0.out x12_1 p167 q167
              cases e167
              replace hx167_0 := (HB.out.cell (World.block_lt_of_cell? w _ hx167_0)).trans hx167_0
              replace hx167_1 := (HB.out.cell (World.block_lt_of_cell? w _ hx167_1)).trans hx167_1
              have HR167_1 := Aside0.mk hi167_1
              have HC167_1 := Aside0.mk hl167_1
              clear hi167_1 hl167_1
              replace p167 := eq_true p167
              replace q167 := eq_true q167
              go_upto_region 6 with (first | ((with_reducible refine gate_dst (N := 4) rfl ?_); (try (refine gate_guard (by rfl) ?_; dsimp only)); refine box_event ?hg (N := 4) ?hd (cs := #[.int .i64 0, .slice none 0 0]) (t := 41) ?hr ?_; (case hd => rfl); (case hg => rfl); (case hr => first | (go_simp; done) | (go_simp; rfl)); intro gb168 hg w7 hbox hb; have n0_ := Aside0.mk (below_step (by repeat (first | (with_reducible first | exact HB.out | apply below_alloc | apply pw_below_drewN | apply below_drew1) | exact HB.out)) hb); have n1_ := Aside0.mk (hbox); have n2_ := Aside0.mk ((by rw [hg]; exact (below_size (by repeat (first | (with_reducible first | exact HB.out | apply below_alloc | apply pw_below_drewN | apply below_drew1) | exact HB.out))) : w.heap.size ≤ gb168)); have n3_ := Aside0.mk ((by rw [hg]; exact (below_size (by repeat (first | (with_reducible first | exact HB.out | apply below_alloc | apply pw_below_drewN | apply below_drew1) | exact HB.out))) : w.heap.size ≤ gb168)); clear HB; have HB := n0_; have BK168 := n1_; have GW168 := n2_; have GE168 := n3_; clear n0_ n1_ n2_ n3_; clear hb hbox hg; have hcz8_0 : w7.cell? ⟨gb168, 0, none⟩ = some (.int .i64 0) := (blk_cell BK168.out 0).trans rfl; have hcz8_1 : w7.cell? ⟨gb168, 1, none⟩ = some (.slice none 0 0) := (blk_cell BK168.out 1).trans rfl; have hfz8_0 := blk_frozen BK168.out 0; have hfz8_1 := blk_frozen BK168.out 1))
              (try simp only [Act.put, List.setIfInBounds_toArray, List.set_cons_zero, List.set_cons_succ])
              go_cut [53] (fun v53 wc => ∃ (kq : Nat) (x53_5 : Bool), v53 = .bool x53_5 ∧ Aside0 (impl_asSaid.j1 kq l0 (l0.length : Int) x12_1 x53_5 ((rd_T41 l0 x12_1).f0) ((rd_T41 l0 x12_1).f1) = some r) ∧ Aside0 (kq ≤ k1) ∧ Aside0 (wc.heap[gb168]? = some (.cells #[.int .i64 ((rd_T41 l0 x12_1).f0), (.slice A167_1 ((rd_T41 l0 x12_1).f1).length c167_1)] 41 (0, 0))) ∧ Aside0 (Below w.heap.size w wc))
              case first =>
                have H := HC6.out
                clear HC6
                by_cases c9 : ((rd_T41 l0 x12_1).f0) = 0
                · rw [if_pos c9] at H
                  have c9b0 : (((rd_T41 l0 x12_1).f0) == 0) = true := beq_iff_eq.mpr c9
                  have c9b1 : (((rd_T41 l0 x12_1).f0) != 0) = false := bne_eq_false_iff_eq.mpr c9
                  clear c9
                  (first | rw [c9b0] | (simp only [i64_w, i32_w]; rw [c9b0]) | skip)
                  by_cases c10 : (((rd_T41 l0 x12_1).f1).length : Int) < 1
                  · rw [if_pos c10] at H
                    have c10b0 : decide ((((rd_T41 l0 x12_1).f1).length : Int) < 1) = true := decide_eq_true c10
                    (try (have c10b9167_1 := c10b0; simp only [hl167_1] at c10b9167_1))
                    have c10b1 : decide (((rd_T41 l0 x12_1).f1).length < 1) = true := decide_eq_true (by omega)
                    clear c10
                    have H' := Aside0.mk H
                    clear H
                    have hcz11_0 : w7.cell? ⟨gb168, 0, none⟩ = some (.int .i64 0) := (blk_cell BK168.out 0).trans rfl
                    have hcz11_1 : w7.cell? ⟨gb168, 1, none⟩ = some (.slice none 0 0) := (blk_cell BK168.out 1).trans rfl
                    have hfz11_0 := blk_frozen BK168.out 0
                    have hfz11_1 := blk_frozen BK168.out 1
                    go_wp2
                    go_meet
                    case rel => exact ⟨_, (true), (by first | rfl | (simp; done) | (simp [*]; done) | (simp; unfold wrap64; omega)), H', ⟨by have := HK1.out; first | omega | exact Nat.le_refl _⟩, ⟨by (with_reducible repeat (first | refine blk_drewN ?_ _ | refine blk_drew ?_ | refine blk_alloc ?_ _)); refine blk_put (cs := #[.int .i64 ((rd_T41 l0 x12_1).f0), .slice none 0 0]) ?_ 1 _ rfl; (with_reducible repeat (first | refine blk_drewN ?_ _ | refine blk_drew ?_ | refine blk_alloc ?_ _)); refine blk_put (cs := #[.int .i64 0, .slice none 0 0]) ?_ 0 _ rfl; (with_reducible repeat (first | refine blk_drewN ?_ _ | refine blk_drew ?_ | refine blk_alloc ?_ _)); exact BK168.out⟩, ⟨by repeat (first | (with_reducible first | exact HB.out | apply below_alloc | apply pw_below_drewN | apply below_drew1 | refine below_set ?_ GE168.out) | exact HB.out)⟩⟩
                  · rw [if_neg c10] at H
                    have c10b0 : decide ((((rd_T41 l0 x12_1).f1).length : Int) < 1) = false := decide_eq_false c10
                    (try (have c10b9167_1 := c10b0; simp only [hl167_1] at c10b9167_1))
                    have c10b1 : decide (((rd_T41 l0 x12_1).f1).length < 1) = false := decide_eq_false (by omega)
                    clear c10
                    by_cases c12 : (((rd_T41 l0 x12_1).f1).length : Int) > 20
                    · rw [if_pos c12] at H
                      have c12b0 : decide (20 < (((rd_T41 l0 x12_1).f1).length : Int)) = true := decide_eq_true c12
                      (try (have c12b9167_1 := c12b0; simp only [hl167_1] at c12b9167_1))
                      have c12b1 : decide (20 < ((rd_T41 l0 x12_1).f1).length) = true := decide_eq_true (by omega)
                      clear c12
                      have H' := Aside0.mk H
                      clear H
                      have hcz13_0 : w7.cell? ⟨gb168, 0, none⟩ = some (.int .i64 0) := (blk_cell BK168.out 0).trans rfl
                      have hcz13_1 : w7.cell? ⟨gb168, 1, none⟩ = some (.slice none 0 0) := (blk_cell BK168.out 1).trans rfl
                      have hfz13_0 := blk_frozen BK168.out 0
                      have hfz13_1 := blk_frozen BK168.out 1
                      go_wp2
                      go_meet
                      case rel => exact ⟨_, (true), (by first | rfl | (simp; done) | (simp [*]; done) | (simp; unfold wrap64; omega)), H', ⟨by have := HK1.out; first | omega | exact Nat.le_refl _⟩, ⟨by (with_reducible repeat (first | refine blk_drewN ?_ _ | refine blk_drew ?_ | refine blk_alloc ?_ _)); refine blk_put (cs := #[.int .i64 ((rd_T41 l0 x12_1).f0), .slice none 0 0]) ?_ 1 _ rfl; (with_reducible repeat (first | refine blk_drewN ?_ _ | refine blk_drew ?_ | refine blk_alloc ?_ _)); refine blk_put (cs := #[.int .i64 0, .slice none 0 0]) ?_ 0 _ rfl; (with_reducible repeat (first | refine blk_drewN ?_ _ | refine blk_drew ?_ | refine blk_alloc ?_ _)); exact BK168.out⟩, ⟨by repeat (first | (with_reducible first | exact HB.out | apply below_alloc | apply pw_below_drewN | apply below_drew1 | refine below_set ?_ GE168.out) | exact HB.out)⟩⟩
                    · rw [if_neg c12] at H
                      have c12b0 : decide (20 < (((rd_T41 l0 x12_1).f1).length : Int)) = false := decide_eq_false c12
                      (try (have c12b9167_1 := c12b0; simp only [hl167_1] at c12b9167_1))
                      have c12b1 : decide (20 < ((rd_T41 l0 x12_1).f1).length) = false := decide_eq_false (by omega)
                      clear c12
                      have H' := Aside0.mk H
                      clear H
                      have hcz14_0 : w7.cell? ⟨gb168, 0, none⟩ = some (.int .i64 0) := (blk_cell BK168.out 0).trans rfl
                      have hcz14_1 : w7.cell? ⟨gb168, 1, none⟩ = some (.slice none 0 0) := (blk_cell BK168.out 1).trans rfl
                      have hfz14_0 := blk_frozen BK168.out 0
                      have hfz14_1 := blk_frozen BK168.out 1
                      go_wp2
                      go_meet
                      case rel => exact ⟨_, (false), (by first | rfl | (simp; done) | (simp [*]; done) | (simp; unfold wrap64; omega)), H', ⟨by have := HK1.out; first | omega | exact Nat.le_refl _⟩, ⟨by (with_reducible repeat (first | refine blk_drewN ?_ _ | refine blk_drew ?_ | refine blk_alloc ?_ _)); refine blk_put (cs := #[.int .i64 ((rd_T41 l0 x12_1).f0), .slice none 0 0]) ?_ 1 _ rfl; (with_reducible repeat (first | refine blk_drewN ?_ _ | refine blk_drew ?_ | refine blk_alloc ?_ _)); refine blk_put (cs := #[.int .i64 0, .slice none 0 0]) ?_ 0 _ rfl; (with_reducible repeat (first | refine blk_drewN ?_ _ | refine blk_drew ?_ | refine blk_alloc ?_ _)); exact BK168.out⟩, ⟨by repeat (first | (with_reducible first | exact HB.out | apply below_alloc | apply pw_below_drewN | apply below_drew1 | refine below_set ?_ GE168.out) | exact HB.out)⟩⟩
                · rw [if_neg c9] at H
                  have c9b0 : (((rd_T41 l0 x12_1).f0) == 0) = false := beq_eq_false_iff_ne.mpr c9
                  have c9b1 : (((rd_T41 l0 x12_1).f0) != 0) = true := bne_iff_ne.mpr c9
                  (first | rw [c9b0] | (simp only [i64_w, i32_w]; rw [c9b0]) | skip)
                  by_cases c15 : (((rd_T41 l0 x12_1).f1).length : Int) = 0
                  · rw [if_pos c15] at H
                    have c15b0 : ((((rd_T41 l0 x12_1).f1).length : Int) == 0) = true := beq_iff_eq.mpr c15
                    have c15b1 : ((((rd_T41 l0 x12_1).f1).length : Int) != 0) = false := bne_eq_false_iff_eq.mpr c15
                    clear c15
                    by_cases c16 : ((rd_T41 l0 x12_1).f0) < 1
                    · rw [if_pos c16] at H
                      have c16b0 : decide (((rd_T41 l0 x12_1).f0) < 1) = true := decide_eq_true c16
                      clear c16
                      have H' := Aside0.mk H
                      clear H
                      have hcz17_0 : w7.cell? ⟨gb168, 0, none⟩ = some (.int .i64 0) := (blk_cell BK168.out 0).trans rfl
                      have hcz17_1 : w7.cell? ⟨gb168, 1, none⟩ = some (.slice none 0 0) := (blk_cell BK168.out 1).trans rfl
                      have hfz17_0 := blk_frozen BK168.out 0
                      have hfz17_1 := blk_frozen BK168.out 1
                      go_wp2
                      go_meet
                      case rel => exact ⟨_, (true), (by first | rfl | (simp; done) | (simp [*]; done) | (simp; unfold wrap64; omega)), H', ⟨by have := HK1.out; first | omega | exact Nat.le_refl _⟩, ⟨by (with_reducible repeat (first | refine blk_drewN ?_ _ | refine blk_drew ?_ | refine blk_alloc ?_ _)); refine blk_put (cs := #[.int .i64 ((rd_T41 l0 x12_1).f0), .slice none 0 0]) ?_ 1 _ rfl; (with_reducible repeat (first | refine blk_drewN ?_ _ | refine blk_drew ?_ | refine blk_alloc ?_ _)); refine blk_put (cs := #[.int .i64 0, .slice none 0 0]) ?_ 0 _ rfl; (with_reducible repeat (first | refine blk_drewN ?_ _ | refine blk_drew ?_ | refine blk_alloc ?_ _)); exact BK168.out⟩, ⟨by repeat (first | (with_reducible first | exact HB.out | apply below_alloc | apply pw_below_drewN | apply below_drew1 | refine below_set ?_ GE168.out) | exact HB.out)⟩⟩
                    · rw [if_neg c16] at H
                      have c16b0 : decide (((rd_T41 l0 x12_1).f0) < 1) = false := decide_eq_false c16
                      clear c16
                      have H' := Aside0.mk H
                      clear H
                      have hcz18_0 : w7.cell? ⟨gb168, 0, none⟩ = some (.int .i64 0) := (blk_cell BK168.out 0).trans rfl
                      have hcz18_1 : w7.cell? ⟨gb168, 1, none⟩ = some (.slice none 0 0) := (blk_cell BK168.out 1).trans rfl
                      have hfz18_0 := blk_frozen BK168.out 0
                      have hfz18_1 := blk_frozen BK168.out 1
                      go_wp2
                      go_meet
                      case rel => exact ⟨_, (decide (((rd_T41 l0 x12_1).f0) > x12_1)), (by first | rfl | (simp; done) | (simp [*]; done) | (simp; unfold wrap64; omega)), H', ⟨by have := HK1.out; first | omega | exact Nat.le_refl _⟩, ⟨by (with_reducible repeat (first | refine blk_drewN ?_ _ | refine blk_drew ?_ | refine blk_alloc ?_ _)); refine blk_put (cs := #[.int .i64 ((rd_T41 l0 x12_1).f0), .slice none 0 0]) ?_ 1 _ rfl; (with_reducible repeat (first | refine blk_drewN ?_ _ | refine blk_drew ?_ | refine blk_alloc ?_ _)); refine blk_put (cs := #[.int .i64 0, .slice none 0 0]) ?_ 0 _ rfl; (with_reducible repeat (first | refine blk_drewN ?_ _ | refine blk_drew ?_ | refine blk_alloc ?_ _)); exact BK168.out⟩, ⟨by repeat (first | (with_reducible first | exact HB.out | apply below_alloc | apply pw_below_drewN | apply below_drew1 | refine below_set ?_ GE168.out) | exact HB.out)⟩⟩
                  · rw [if_neg c15] at H
                    have c15b0 : ((((rd_T41 l0 x12_1).f1).length : Int) == 0) = false := beq_eq_false_iff_ne.mpr c15
                    have c15b1 : ((((rd_T41 l0 x12_1).f1).length : Int) != 0) = true := bne_iff_ne.mpr c15
                    have c15b2 : ¬ (((rd_T41 l0 x12_1).f1) = []) := fun h_ => c15 (by rw [h_]; rfl)
                    have H' := Aside0.mk H
                    clear H
                    have hcz19_0 : w7.cell? ⟨gb168, 0, none⟩ = some (.int .i64 0) := (blk_cell BK168.out 0).trans rfl
                    have hcz19_1 : w7.cell? ⟨gb168, 1, none⟩ = some (.slice none 0 0) := (blk_cell BK168.out 1).trans rfl
                    have hfz19_0 := blk_frozen BK168.out 0
                    have hfz19_1 := blk_frozen BK168.out 1
                    go_wp2
                    go_meet
                    case rel => exact ⟨_, (true), (by first | rfl | (simp; done) | (simp [*]; done) | (simp; unfold wrap64; omega)), H', ⟨by have := HK1.out; first | omega | exact Nat.le_refl _⟩, ⟨by (with_reducible repeat (first | refine blk_drewN ?_ _ | refine blk_drew ?_ | refine blk_alloc ?_ _)); refine blk_put (cs := #[.int .i64 ((rd_T41 l0 x12_1).f0), .slice none 0 0]) ?_ 1 _ rfl; (with_reducible repeat (first | refine blk_drewN ?_ _ | refine blk_drew ?_ | refine blk_alloc ?_ _)); refine blk_put (cs := #[.int .i64 0, .slice none 0 0]) ?_ 0 _ rfl; (with_reducible repeat (first | refine blk_drewN ?_ _ | refine blk_drew ?_ | refine blk_alloc ?_ _)); exact BK168.out⟩, ⟨by repeat (first | (with_reducible first | exact HB.out | apply below_alloc | apply pw_below_drewN | apply below_drew1 | refine below_set ?_ GE168.out) | exact HB.out)⟩⟩
              case rest =>
                clear HC6
                try clear c1
                try clear p1
                try clear q1
                try clear hx1
                try clear c2
                try clear c2b0
                try clear c2b1
                try clear p2
                try clear c3
                try clear c3b0
                try clear c4
                try clear c4b0
                try clear c5
                try clear c5b0
                try clear c9
                try clear c9b0
                try clear c9b1
                try clear c10
                try clear c10b0
                try clear c10b1
                try clear c12
                try clear c12b0
                try clear c12b1
                try clear c15
                try clear c15b0
                try clear c15b1
                try clear c15b2
                try clear c16
                try clear c16b0
                try clear p16
                try clear q16
                try clear hx16
                try clear hcz11_0
                try clear hcz11_1
                try clear hcz13_0
                try clear hcz13_1
                try clear hcz14_0
                try clear hcz14_1
                try clear hcz17_0
                try clear hcz17_1
                try clear hcz18_0
                try clear hcz18_1
                try clear hcz19_0
                try clear hcz19_1
                try clear hcz8_0
                try clear hcz8_1
                try clear hfz11_0
                try clear hfz11_1
                try clear hfz13_0
                try clear hfz13_1
                try clear hfz14_0
                try clear hfz14_1
                try clear hfz17_0
                try clear hfz17_1
                try clear hfz18_0
                try clear hfz18_1
                try clear hfz19_0
                try clear hfz19_1
                try clear hfz8_0
                try clear hfz8_1
                try clear hx167_0
                try clear hx167_1
                try clear p167
                try clear p2
                try clear q167
                obtain ⟨kq, x53_5, rfl, HA, HJ5, BK168, HB⟩ := hcut
                cases kq with
                | zero => exact absurd HA.out (by simp [impl_asSaid.j1])
                | succ kj5 =>
                  have H := HA.out
                  clear HA
                  simp only [impl_asSaid.j1] at H
                  by_cases c20 : x53_5 = true
                  · subst c20
                    have H1 : (some false) = some r := by rw [if_pos rfl] at H; exact H
                    clear H
                    have H := H1
                    clear H1
                    obtain rfl := Option.some.inj H
                    go_wp2
                    go_ret
                    exact ⟨by first | rfl | (simp [errW_none, errW_some] <;> rfl) | (simp [*, errW_none, errW_some] <;> rfl), by repeat (first | (with_reducible first | exact HB.out | apply below_alloc | apply pw_below_drewN | apply below_drew1 | refine below_set ?_ GE168.out) | exact HB.out)⟩
                  · replace c20 := Bool.eq_false_iff.mpr c20
                    subst c20
                    have H1 : (impl_asSaid.l1 kj5 l0 (l0.length : Int) x12_1 ((rd_T41 l0 x12_1).f1) (((rd_T41 l0 x12_1).f1).length : Int) 0) = some r := by rw [if_neg (show ¬ (false = true) by decide)] at H; exact H
                    clear H
                    have H := H1
                    clear H1
                    have H' := Aside0.mk H
                    clear H
                    have hcz21_0 : wc.cell? ⟨gb168, 0, none⟩ = some (.int .i64 ((rd_T41 l0 x12_1).f0)) := (blk_cell BK168.out 0).trans rfl
                    have hcz21_1 : wc.cell? ⟨gb168, 1, none⟩ = some (.slice A167_1 ((rd_T41 l0 x12_1).f1).length c167_1) := (blk_cell BK168.out 1).trans rfl
                    have hfz21_0 := blk_frozen BK168.out 0
                    have hfz21_1 := blk_frozen BK168.out 1
                    go_wp2
                    go_loopg [57] kj5 (fun kq v57 w' => ∃ (x57_3 : Int), v57 = .int .i64 x57_3 ∧ Aside0 (impl_asSaid.l1 kq l0 (l0.length : Int) x12_1 ((rd_T41 l0 x12_1).f1) (((rd_T41 l0 x12_1).f1).length : Int) x57_3 = some r) ∧ Aside0 (kq ≤ kj5) ∧ Aside0 (w'.heap[gb168]? = some (.cells #[.int .i64 ((rd_T41 l0 x12_1).f0), (.slice A167_1 ((rd_T41 l0 x12_1).f1).length c167_1)] 41 (0, 0))) ∧ Aside0 (Below w.heap.size w w'))
                    case atStart => exact ⟨(0), (by first | rfl | (simp; done) | (simp [*]; done) | (simp; unfold wrap64; omega)), H', ⟨Nat.le_refl _⟩, ⟨by (with_reducible repeat (first | refine blk_drewN ?_ _ | refine blk_drew ?_ | refine blk_alloc ?_ _)); exact BK168.out⟩, ⟨by repeat (first | (with_reducible first | exact HB.out | apply below_alloc | apply pw_below_drewN | apply below_drew1 | refine below_set ?_ GE168.out) | exact HB.out)⟩⟩
                    case round =>
                      clear H'
                      try clear c1
                      try clear p1
                      try clear q1
                      try clear hx1
                      try clear c2
                      try clear c2b0
                      try clear c2b1
                      try clear p2
                      try clear c3
                      try clear c3b0
                      try clear c4
                      try clear c4b0
                      try clear c5
                      try clear c5b0
                      try clear c9
                      try clear c9b0
                      try clear c9b1
                      try clear c10
                      try clear c10b0
                      try clear c10b1
                      try clear c12
                      try clear c12b0
                      try clear c12b1
                      try clear c15
                      try clear c15b0
                      try clear c15b1
                      try clear c15b2
                      try clear c16
                      try clear c16b0
                      try clear p16
                      try clear q16
                      try clear hx16
                      try clear c20
                      try clear hcz11_0
                      try clear hcz11_1
                      try clear hcz13_0
                      try clear hcz13_1
                      try clear hcz14_0
                      try clear hcz14_1
                      try clear hcz17_0
                      try clear hcz17_1
                      try clear hcz18_0
                      try clear hcz18_1
                      try clear hcz19_0
                      try clear hcz19_1
                      try clear hcz21_0
                      try clear hcz21_1
                      try clear hcz8_0
                      try clear hcz8_1
                      try clear hfz11_0
                      try clear hfz11_1
                      try clear hfz13_0
                      try clear hfz13_1
                      try clear hfz14_0
                      try clear hfz14_1
                      try clear hfz17_0
                      try clear hfz17_1
                      try clear hfz18_0
                      try clear hfz18_1
                      try clear hfz19_0
                      try clear hfz19_1
                      try clear hfz21_0
                      try clear hfz21_1
                      try clear hfz8_0
                      try clear hfz8_1
                      try clear hx167_0
                      try clear hx167_1
                      try clear p1
                      try clear p16
                      try clear p167
                      try clear p2
                      try clear q1
                      try clear q16
                      try clear q167
                      obtain ⟨x57_3, rfl, HA, HK3, BK168, HB⟩ := hrel
                      cases gk with
                      | zero => exact absurd HA.out (by simp [impl_asSaid.l1])
                      | succ k3 =>
                        have H := HA.out
                        clear HA
                        simp only [impl_asSaid.l1] at H
                        by_cases c22 : x57_3 < (((rd_T41 l0 x12_1).f1).length : Int)
                        · rw [if_pos c22] at H
                          have c22b0 : decide (x57_3 < (((rd_T41 l0 x12_1).f1).length : Int)) = true := decide_eq_true c22
                          (try (have c22b9167_1 := c22b0; simp only [hl167_1] at c22b9167_1))
                          clear c22
                          by_cases c23 : 0 ≤ x57_3
                          · rw [if_pos c23] at H
                            have c23b0 : decide (0 ≤ x57_3) = true := decide_eq_true c23
                            clear c23
                            by_cases c24 : x57_3 < (((rd_T41 l0 x12_1).f1).length : Int)
                            · rw [if_pos c24] at H
                              have c24b0 : decide (x57_3 < (((rd_T41 l0 x12_1).f1).length : Int)) = true := decide_eq_true c24
                              (try (have c24b9167_1 := c24b0; simp only [hl167_1] at c24b9167_1))
                              clear c24
                              replace H := Option.bind_eq_some_iff.mp H
                              obtain ⟨t171, A250, H⟩ := H
                              replace H : (if t171 = true then (impl_asSaid.l1 k3 l0 (l0.length : Int) x12_1 ((rd_T41 l0 x12_1).f1) (((rd_T41 l0 x12_1).f1).length : Int) (wrap64 (x57_3 + 1))) else (some false)) = some r := H
                              have A25 := Aside0.mk A250
                              clear A250
                              by_cases c26 : t171 = true
                              · subst c26
                                have H1 : (impl_asSaid.l1 k3 l0 (l0.length : Int) x12_1 ((rd_T41 l0 x12_1).f1) (((rd_T41 l0 x12_1).f1).length : Int) (wrap64 (x57_3 + 1))) = some r := by rw [if_pos rfl] at H; exact H
                                clear H
                                have H := H1
                                clear H1
                                have H' := Aside0.mk H
                                clear H
                                have p169 : 0 ≤ (x57_3 : Int) := of_decide_eq_true (by first | (with_reducible assumption) | assumption)
                                have q169 : x57_3 < (((rd_T41 l0 x12_1).f1).length : Int) := of_decide_eq_true (by first | (with_reducible assumption) | assumption)
                                obtain ⟨ad169, e169, hx169_0, hx169_1, hx169_2⟩ := at_T51 HR167_1.out x57_3 p169 q169
                                cases e169
                                replace hx169_0 := (HB.out.cell (World.block_lt_of_cell? w _ hx169_0)).trans hx169_0
                                replace hx169_1 := (HB.out.cell (World.block_lt_of_cell? w _ hx169_1)).trans hx169_1
                                replace hx169_2 := (HB.out.cell (World.block_lt_of_cell? w _ hx169_2)).trans hx169_2
                                replace p169 := eq_true p169
                                replace q169 := eq_true q169
                                go_wp2_with (first | ((with_reducible refine gate_dst (N := 6) rfl ?_); (try (refine gate_guard (by rfl) ?_; dsimp only)); refine box_event ?hg (N := 6) ?hd (cs := #[.int .i64 0, .int .i64 0, .string (⟨#[]⟩ : ByteArray)]) (t := 51) ?hr ?_; (case hd => rfl); (case hg => rfl); (case hr => first | (go_simp; done) | (go_simp; rfl)); intro gb170 hg w27 hbox hb; have n0_ := Aside0.mk (blk_below (g := gb168) (o := .cells #[.int .i64 ((rd_T41 l0 x12_1).f0), .slice (some ad169) ((rd_T41 l0 x12_1).f1).length c167_1] 41 (0, 0)) (by (with_reducible repeat (first | refine blk_drewN ?_ _ | refine blk_drew ?_ | refine blk_alloc ?_ _)); exact BK168.out) hb); have n1_ := Aside0.mk (below_step (by repeat (first | (with_reducible first | exact HB.out | apply below_alloc | apply pw_below_drewN | apply below_drew1 | refine below_set ?_ GE168.out) | exact HB.out)) hb); have n2_ := Aside0.mk (hbox); have n3_ := Aside0.mk ((by rw [hg]; exact (below_size (by repeat (first | (with_reducible first | exact HB.out | apply below_alloc | apply pw_below_drewN | apply below_drew1 | refine below_set ?_ GE168.out) | exact HB.out))) : w.heap.size ≤ gb170)); have n4_ := Aside0.mk ((by rw [hg]; exact (below_size (by repeat (first | (with_reducible first | exact HB.out | apply below_alloc | apply pw_below_drewN | apply below_drew1 | refine below_set ?_ GE168.out) | exact HB.out))) : w.heap.size ≤ gb170)); have n5_ := Aside0.mk ((by rw [hg]; exact Nat.ne_of_lt (blk_lt (g := gb168) (o := .cells #[.int .i64 ((rd_T41 l0 x12_1).f0), .slice (some ad169) ((rd_T41 l0 x12_1).f1).length c167_1] 41 (0, 0)) (by (with_reducible repeat (first | refine blk_drewN ?_ _ | refine blk_drew ?_ | refine blk_alloc ?_ _)); exact BK168.out)) : gb168 ≠ gb170)); have n6_ := Aside0.mk ((by rw [hg]; exact Nat.ne_of_gt (blk_lt (g := gb168) (o := .cells #[.int .i64 ((rd_T41 l0 x12_1).f0), .slice (some ad169) ((rd_T41 l0 x12_1).f1).length c167_1] 41 (0, 0)) (by (with_reducible repeat (first | refine blk_drewN ?_ _ | refine blk_drew ?_ | refine blk_alloc ?_ _)); exact BK168.out)) : gb170 ≠ gb168)); clear BK168; clear HB; have BK168 := n0_; have HB := n1_; have BK170 := n2_; have GW170 := n3_; have GE170 := n4_; have NB168_170 := n5_; have NB170_168 := n6_; clear n0_ n1_ n2_ n3_ n4_ n5_ n6_; clear hb hbox hg; have hnb28 := NB170_168.out; have hnc28 := NB168_170.out; have hcz29_0 : w27.cell? ⟨gb170, 0, none⟩ = some (.int .i64 0) := (blk_cell BK170.out 0).trans rfl; have hcz29_1 : w27.cell? ⟨gb170, 1, none⟩ = some (.int .i64 0) := (blk_cell BK170.out 1).trans rfl; have hcz29_2 : w27.cell? ⟨gb170, 2, none⟩ = some (.string (⟨#[]⟩ : ByteArray)) := (blk_cell BK170.out 2).trans rfl; have hfz29_0 := blk_frozen BK170.out 0; have hfz29_1 := blk_frozen BK170.out 1; have hfz29_2 := blk_frozen BK170.out 2) | ((with_reducible refine gate_callee (f := 35) rfl ?_); refine goesL_ (some 66) rfl rfl Try.func35 (by kernel_rfl) rfl #[.agg #[.int .i64 ((rd_T51 ((rd_T41 l0 x12_1).f1) x57_3).f0), .int .i64 ((rd_T51 ((rd_T41 l0 x12_1).f1) x57_3).f1)]] rfl (by (try simp only [List.map_toArray, List.map_cons, List.map_nil]); first | done | rfl | (simp only [List.length_drop, List.length_take]; rfl)) ?_; (with_reducible refine (impl_place_good.calls ((rd_T51 ((rd_T41 l0 x12_1).f1) x57_3).f0) ((rd_T51 ((rd_T41 l0 x12_1).f1) x57_3).f1) true _ A25.out).mono ?_); rintro e w30 ⟨rfl, hb⟩; refine ⟨_, rfl, ?_⟩; have n0_ := Aside0.mk (blk_below (g := gb168) (o := .cells #[.int .i64 ((rd_T41 l0 x12_1).f0), .slice (some ad169) ((rd_T41 l0 x12_1).f1).length c167_1] 41 (0, 0)) (by (with_reducible repeat (first | refine blk_drewN ?_ _ | refine blk_drew ?_ | refine blk_alloc ?_ _)); refine blk_far ?_ NB168_170.out _; (with_reducible repeat (first | refine blk_drewN ?_ _ | refine blk_drew ?_ | refine blk_alloc ?_ _)); refine blk_far ?_ NB168_170.out _; (with_reducible repeat (first | refine blk_drewN ?_ _ | refine blk_drew ?_ | refine blk_alloc ?_ _)); refine blk_far ?_ NB168_170.out _; (with_reducible repeat (first | refine blk_drewN ?_ _ | refine blk_drew ?_ | refine blk_alloc ?_ _)); exact BK168.out) hb); have n1_ := Aside0.mk (blk_below (g := gb170) (o := .cells #[.int .i64 ((rd_T51 ((rd_T41 l0 x12_1).f1) x57_3).f0), .int .i64 ((rd_T51 ((rd_T41 l0 x12_1).f1) x57_3).f1), .string ((rd_T51 ((rd_T41 l0 x12_1).f1) x57_3).f2)] 51 (0, 0)) (by (with_reducible repeat (first | refine blk_drewN ?_ _ | refine blk_drew ?_ | refine blk_alloc ?_ _)); refine blk_put (cs := #[.int .i64 ((rd_T51 ((rd_T41 l0 x12_1).f1) x57_3).f0), .int .i64 ((rd_T51 ((rd_T41 l0 x12_1).f1) x57_3).f1), .string (⟨#[]⟩ : ByteArray)]) ?_ 2 _ rfl; (with_reducible repeat (first | refine blk_drewN ?_ _ | refine blk_drew ?_ | refine blk_alloc ?_ _)); refine blk_put (cs := #[.int .i64 ((rd_T51 ((rd_T41 l0 x12_1).f1) x57_3).f0), .int .i64 0, .string (⟨#[]⟩ : ByteArray)]) ?_ 1 _ rfl; (with_reducible repeat (first | refine blk_drewN ?_ _ | refine blk_drew ?_ | refine blk_alloc ?_ _)); refine blk_put (cs := #[.int .i64 0, .int .i64 0, .string (⟨#[]⟩ : ByteArray)]) ?_ 0 _ rfl; (with_reducible repeat (first | refine blk_drewN ?_ _ | refine blk_drew ?_ | refine blk_alloc ?_ _)); exact BK170.out) hb); have n2_ := Aside0.mk (below_step (by repeat (first | (with_reducible first | exact HB.out | apply below_alloc | apply pw_below_drewN | apply below_drew1 | refine below_set ?_ GE168.out | refine below_set ?_ GE170.out) | exact HB.out)) hb); clear BK168; clear BK170; clear HB; have BK168 := n0_; have BK170 := n1_; have HB := n2_; clear n0_ n1_ n2_; (try clear hb); (try clear hb2); (try clear hk); (try clear hi)))
                                go_roundg k3
                                case measure => have := HK1.out; have := HJ5.out; have := HK3.out; omega
                                case rel => exact ⟨(wrap64 (x57_3 + 1)), (by first | rfl | (simp; done) | (simp [*]; done) | (simp; unfold wrap64; omega)), H', ⟨by have := HK1.out; have := HJ5.out; have := HK3.out; omega⟩, ⟨by (with_reducible repeat (first | refine blk_drewN ?_ _ | refine blk_drew ?_ | refine blk_alloc ?_ _)); exact BK168.out⟩, ⟨by repeat (first | (with_reducible first | exact HB.out | apply below_alloc | apply pw_below_drewN | apply below_drew1 | refine below_set ?_ GE168.out | refine below_set ?_ GE170.out) | exact HB.out)⟩⟩
                              · replace c26 := Bool.eq_false_iff.mpr c26
                                subst c26
                                have H1 : (some false) = some r := by rw [if_neg (show ¬ (false = true) by decide)] at H; exact H
                                clear H
                                have H := H1
                                clear H1
                                obtain rfl := Option.some.inj H
                                have p169 : 0 ≤ (x57_3 : Int) := of_decide_eq_true (by first | (with_reducible assumption) | assumption)
                                have q169 : x57_3 < (((rd_T41 l0 x12_1).f1).length : Int) := of_decide_eq_true (by first | (with_reducible assumption) | assumption)
                                obtain ⟨ad169, e169, hx169_0, hx169_1, hx169_2⟩ := at_T51 HR167_1.out x57_3 p169 q169
                                cases e169
                                replace hx169_0 := (HB.out.cell (World.block_lt_of_cell? w _ hx169_0)).trans hx169_0
                                replace hx169_1 := (HB.out.cell (World.block_lt_of_cell? w _ hx169_1)).trans hx169_1
                                replace hx169_2 := (HB.out.cell (World.block_lt_of_cell? w _ hx169_2)).trans hx169_2
                                replace p169 := eq_true p169
                                replace q169 := eq_true q169
                                go_wp2_with (first | ((with_reducible refine gate_dst (N := 6) rfl ?_); (try (refine gate_guard (by rfl) ?_; dsimp only)); refine box_event ?hg (N := 6) ?hd (cs := #[.int .i64 0, .int .i64 0, .string (⟨#[]⟩ : ByteArray)]) (t := 51) ?hr ?_; (case hd => rfl); (case hg => rfl); (case hr => first | (go_simp; done) | (go_simp; rfl)); intro gb170 hg w31 hbox hb; have n0_ := Aside0.mk (blk_below (g := gb168) (o := .cells #[.int .i64 ((rd_T41 l0 x12_1).f0), .slice (some ad169) ((rd_T41 l0 x12_1).f1).length c167_1] 41 (0, 0)) (by (with_reducible repeat (first | refine blk_drewN ?_ _ | refine blk_drew ?_ | refine blk_alloc ?_ _)); exact BK168.out) hb); have n1_ := Aside0.mk (below_step (by repeat (first | (with_reducible first | exact HB.out | apply below_alloc | apply pw_below_drewN | apply below_drew1 | refine below_set ?_ GE168.out) | exact HB.out)) hb); have n2_ := Aside0.mk (hbox); have n3_ := Aside0.mk ((by rw [hg]; exact (below_size (by repeat (first | (with_reducible first | exact HB.out | apply below_alloc | apply pw_below_drewN | apply below_drew1 | refine below_set ?_ GE168.out) | exact HB.out))) : w.heap.size ≤ gb170)); have n4_ := Aside0.mk ((by rw [hg]; exact (below_size (by repeat (first | (with_reducible first | exact HB.out | apply below_alloc | apply pw_below_drewN | apply below_drew1 | refine below_set ?_ GE168.out) | exact HB.out))) : w.heap.size ≤ gb170)); have n5_ := Aside0.mk ((by rw [hg]; exact Nat.ne_of_lt (blk_lt (g := gb168) (o := .cells #[.int .i64 ((rd_T41 l0 x12_1).f0), .slice (some ad169) ((rd_T41 l0 x12_1).f1).length c167_1] 41 (0, 0)) (by (with_reducible repeat (first | refine blk_drewN ?_ _ | refine blk_drew ?_ | refine blk_alloc ?_ _)); exact BK168.out)) : gb168 ≠ gb170)); have n6_ := Aside0.mk ((by rw [hg]; exact Nat.ne_of_gt (blk_lt (g := gb168) (o := .cells #[.int .i64 ((rd_T41 l0 x12_1).f0), .slice (some ad169) ((rd_T41 l0 x12_1).f1).length c167_1] 41 (0, 0)) (by (with_reducible repeat (first | refine blk_drewN ?_ _ | refine blk_drew ?_ | refine blk_alloc ?_ _)); exact BK168.out)) : gb170 ≠ gb168)); clear BK168; clear HB; have BK168 := n0_; have HB := n1_; have BK170 := n2_; have GW170 := n3_; have GE170 := n4_; have NB168_170 := n5_; have NB170_168 := n6_; clear n0_ n1_ n2_ n3_ n4_ n5_ n6_; clear hb hbox hg; have hnb32 := NB170_168.out; have hnc32 := NB168_170.out; have hcz33_0 : w31.cell? ⟨gb170, 0, none⟩ = some (.int .i64 0) := (blk_cell BK170.out 0).trans rfl; have hcz33_1 : w31.cell? ⟨gb170, 1, none⟩ = some (.int .i64 0) := (blk_cell BK170.out 1).trans rfl; have hcz33_2 : w31.cell? ⟨gb170, 2, none⟩ = some (.string (⟨#[]⟩ : ByteArray)) := (blk_cell BK170.out 2).trans rfl; have hfz33_0 := blk_frozen BK170.out 0; have hfz33_1 := blk_frozen BK170.out 1; have hfz33_2 := blk_frozen BK170.out 2) | ((with_reducible refine gate_callee (f := 35) rfl ?_); refine goesL_ (some 66) rfl rfl Try.func35 (by kernel_rfl) rfl #[.agg #[.int .i64 ((rd_T51 ((rd_T41 l0 x12_1).f1) x57_3).f0), .int .i64 ((rd_T51 ((rd_T41 l0 x12_1).f1) x57_3).f1)]] rfl (by (try simp only [List.map_toArray, List.map_cons, List.map_nil]); first | done | rfl | (simp only [List.length_drop, List.length_take]; rfl)) ?_; (with_reducible refine (impl_place_good.calls ((rd_T51 ((rd_T41 l0 x12_1).f1) x57_3).f0) ((rd_T51 ((rd_T41 l0 x12_1).f1) x57_3).f1) false _ A25.out).mono ?_); rintro e w34 ⟨rfl, hb⟩; refine ⟨_, rfl, ?_⟩; have n0_ := Aside0.mk (blk_below (g := gb168) (o := .cells #[.int .i64 ((rd_T41 l0 x12_1).f0), .slice (some ad169) ((rd_T41 l0 x12_1).f1).length c167_1] 41 (0, 0)) (by (with_reducible repeat (first | refine blk_drewN ?_ _ | refine blk_drew ?_ | refine blk_alloc ?_ _)); refine blk_far ?_ NB168_170.out _; (with_reducible repeat (first | refine blk_drewN ?_ _ | refine blk_drew ?_ | refine blk_alloc ?_ _)); refine blk_far ?_ NB168_170.out _; (with_reducible repeat (first | refine blk_drewN ?_ _ | refine blk_drew ?_ | refine blk_alloc ?_ _)); refine blk_far ?_ NB168_170.out _; (with_reducible repeat (first | refine blk_drewN ?_ _ | refine blk_drew ?_ | refine blk_alloc ?_ _)); exact BK168.out) hb); have n1_ := Aside0.mk (blk_below (g := gb170) (o := .cells #[.int .i64 ((rd_T51 ((rd_T41 l0 x12_1).f1) x57_3).f0), .int .i64 ((rd_T51 ((rd_T41 l0 x12_1).f1) x57_3).f1), .string ((rd_T51 ((rd_T41 l0 x12_1).f1) x57_3).f2)] 51 (0, 0)) (by (with_reducible repeat (first | refine blk_drewN ?_ _ | refine blk_drew ?_ | refine blk_alloc ?_ _)); refine blk_put (cs := #[.int .i64 ((rd_T51 ((rd_T41 l0 x12_1).f1) x57_3).f0), .int .i64 ((rd_T51 ((rd_T41 l0 x12_1).f1) x57_3).f1), .string (⟨#[]⟩ : ByteArray)]) ?_ 2 _ rfl; (with_reducible repeat (first | refine blk_drewN ?_ _ | refine blk_drew ?_ | refine blk_alloc ?_ _)); refine blk_put (cs := #[.int .i64 ((rd_T51 ((rd_T41 l0 x12_1).f1) x57_3).f0), .int .i64 0, .string (⟨#[]⟩ : ByteArray)]) ?_ 1 _ rfl; (with_reducible repeat (first | refine blk_drewN ?_ _ | refine blk_drew ?_ | refine blk_alloc ?_ _)); refine blk_put (cs := #[.int .i64 0, .int .i64 0, .string (⟨#[]⟩ : ByteArray)]) ?_ 0 _ rfl; (with_reducible repeat (first | refine blk_drewN ?_ _ | refine blk_drew ?_ | refine blk_alloc ?_ _)); exact BK170.out) hb); have n2_ := Aside0.mk (below_step (by repeat (first | (with_reducible first | exact HB.out | apply below_alloc | apply pw_below_drewN | apply below_drew1 | refine below_set ?_ GE168.out | refine below_set ?_ GE170.out) | exact HB.out)) hb); clear BK168; clear BK170; clear HB; have BK168 := n0_; have BK170 := n1_; have HB := n2_; clear n0_ n1_ n2_; (try clear hb); (try clear hb2); (try clear hk); (try clear hi)))
                                go_ret
                                exact ⟨by first | rfl | (simp [errW_none, errW_some] <;> rfl) | (simp [*, errW_none, errW_some] <;> rfl), by repeat (first | (with_reducible first | exact HB.out | apply below_alloc | apply pw_below_drewN | apply below_drew1 | refine below_set ?_ GE168.out | refine below_set ?_ GE170.out) | exact HB.out)⟩
                            · rw [if_neg c24] at H
                              exact absurd H (by simp)
                          · rw [if_neg c23] at H
                            exact absurd H (by simp)
                        · rw [if_neg c22] at H
                          have c22b0 : decide (x57_3 < (((rd_T41 l0 x12_1).f1).length : Int)) = false := decide_eq_false c22
                          (try (have c22b9167_1 := c22b0; simp only [hl167_1] at c22b9167_1))
                          clear c22
                          have H' := Aside0.mk H
                          clear H
                          go_wp2
                          go_roundg k3
                          case measure => have := HK1.out; have := HJ5.out; have := HK3.out; omega
                          case rel => exact ⟨(wrap64 (x12_1 + 1)), (by first | rfl | (simp; done) | (simp [*]; done) | (simp; unfold wrap64; omega)), H', ⟨by have := HK1.out; have := HJ5.out; have := HK3.out; omega⟩, ⟨by repeat (first | (with_reducible first | exact HB.out | apply below_alloc | apply pw_below_drewN | apply below_drew1 | refine below_set ?_ GE168.out) | exact HB.out)⟩⟩
            · rw [if_neg c5] at H
              exact absurd H (by simp)
          · rw [if_neg c4] at H
            exact absurd H (by simp)
        · rw [if_neg c3] at H
          have c3b0 : decide (x12_1 < (l0.length : Int)) = false := decide_eq_false c3
          (try (have c3b9167_1 := c3b0; simp only [hl167_1] at c3b9167_1))
          clear c3
          obtain rfl := Option.some.inj H
          go_wp2
          go_ret
          exact ⟨by first | rfl | (simp [errW_none, errW_some] <;> rfl) | (simp [*, errW_none, errW_some] <;> rfl), by repeat (first | (with_reducible first | exact HB.out | apply below_alloc | apply pw_below_drewN | apply below_drew1) | exact HB.out)⟩

-- NOT PRINTED: function 33 (impl_chain)

-- NOT PRINTED: function 28 (impl_standing)

-- NOT PRINTED: function 23 (impl_lastThat)

/-! ### impl_LastRedo: function 12 -/
/-! a map from whole numbers to truths: what it holds, by a function -/
def SetM (P : Program) (kt et : TypeId) (w : World) (b : Nat) (B : Nat) (f : Int → Bool) : Prop :=
  ∃ (n : Nat) (D : DataW Nat), n ≤ B ∧ w.ownsMap P kt (plainElem P et) b n D ∧ Maps.IsMap D ∧ ∀ x, (Lit.int .i64 x).wf = true → D.atKey (.int .i64 x) (.lit (.bool false)) = .lit (.bool (f x))
theorem SetM.made (P : Program) (kt et : TypeId) (w : World) : SetM P kt et (w.alloc (.map #[] 0)) w.heap.size 0 (fun _ => false) :=
  ⟨0, .map [], Nat.le_refl _, World.ownsMap_made w P kt _, Maps.isMap_empty, fun x _ => by simp [DataW.atKey]⟩
theorem SetM.kept {P : Program} {kt et : TypeId} {w w' : World} {b B : Nat} {f : Int → Bool} (h : SetM P kt et w b B f) {row : Option Nat} (hg : w.grownBy w' row) (hne : some b ≠ row) : SetM P kt et w' b B f := by
  obtain ⟨n, D, h1, h2, h3, h4⟩ := h
  exact ⟨n, D, h1, h2.kept hg hne, h3, h4⟩
theorem SetM.below {P : Program} {kt et : TypeId} {w w' : World} {b B : Nat} {f : Int → Bool} (h : SetM P kt et w b B f) (hb : Below w.heap.size w w') : SetM P kt et w' b B f := h.kept (grown_of_below hb none) (by simp)
theorem SetM.drewN {P : Program} {kt et : TypeId} {w : World} {b B : Nat} {f : Int → Bool} (h : SetM P kt et w b B f) (q : Nat) : SetM P kt et (w.drewN q) b B f := h
theorem SetM.lt {P : Program} {kt et : TypeId} {w : World} {b B : Nat} {f : Int → Bool} (h : SetM P kt et w b B f) : b < w.heap.size := by
  obtain ⟨n, D, h1, h2, h3, h4⟩ := h
  exact h2.lt
theorem plainElem_bool_inv {P : Program} {e : TypeId} (he : P.underlying e = some .bool) {v : Value} {z : DataW Nat × List MemPlace} (h : plainElem P e v = some z) : ∃ x, v = .bool x ∧ z = (.lit (.bool x), []) := by
  unfold plainElem at h
  rw [he] at h
  split at h
  · rename_i x _; exact ⟨x, rfl, by cases h; rfl⟩
  · rename_i h1; cases h1
  · rename_i h1; cases h1
  · cases h
theorem SetM.look {P : Program} {kt et mt : TypeId} {w : World} {b B : Nat} {f : Int → Bool} (h : SetM P kt et w b B f) (hk : P.underlying kt = some (.int .i64)) (he : P.underlying et = some .bool) (hm : P.underlying mt = some (.map kt et))
    (hz : (zeroValue et).run P w = .ok (.bool false) w) {x : Int} (hx : (Lit.int .i64 x).wf = true) : (Instr.lookup mt (.map (some b)) (.int .i64 x) false).run P w = .ok (.bool (f x)) w := by
  obtain ⟨n, D, h1, h2, h3, h4⟩ := h
  obtain ⟨v, ps, hrun, hv⟩ := h2.lookup (Maps.int_keyed hk) hm hz (plainElem_bool he false) (Maps.keyOf_int_mk hk hx)
  rw [h4 x hx] at hv
  obtain ⟨y, rfl, hy⟩ := plainElem_bool_inv he hv
  simp only [Prod.mk.injEq, DataW.lit.injEq, Lit.bool.injEq] at hy
  rw [hrun, hy.1]
theorem SetM.put {P : Program} {kt et mt : TypeId} {w : World} {b B : Nat} {f : Int → Bool} (h : SetM P kt et w b B f) (hk : P.underlying kt = some (.int .i64)) (he : P.underlying et = some .bool) (hm : P.underlying mt = some (.map kt et))
    (hn : B < maxLen) {x : Int} (hx : (Lit.int .i64 x).wf = true) :
    ∃ w', (Instr.mapUpdate mt (.map (some b)) (.int .i64 x) (.bool true)).run P w = .ok () w' ∧ SetM P kt et w' b (B + 1) (fun y => decide (y = x) || f y) ∧ w.grownBy w' (some b) := by
  obtain ⟨n, D, h1, h2, h3, h4⟩ := h
  obtain ⟨w', hrun, hown, hg⟩ := h2.update (Maps.int_keyed hk) hm (by omega) (Maps.keyOf_int_mk hk hx) (plainElem_bool he true)
  refine ⟨w', hrun, ⟨n + 1, _, by omega, hown, h3.put _ _, fun y hy => ?_⟩, hg⟩
  by_cases e : y = x
  · subst e
    rw [Maps.atKey_put_same h3 (by simp [WideAt.IsKeyLit])]
    simp
  · rw [Maps.atKey_put_other (by simpa using e), h4 y hy]
    simp [e]
theorem SetM.del {P : Program} {kt et mt : TypeId} {w : World} {b B : Nat} {f : Int → Bool} (h : SetM P kt et w b B f) (hk : P.underlying kt = some (.int .i64)) (hm : P.underlying mt = some (.map kt et)) {x : Int} (hx : (Lit.int .i64 x).wf = true) (ty : TypeId) :
    ∃ w', (Builtin.delete_ #[mt, kt] ty #[.map (some b), .int .i64 x]).run P w = .ok (.tuple #[]) w' ∧ SetM P kt et w' b B (fun y => decide (y ≠ x) && f y) ∧ w.grownBy w' (some b) := by
  obtain ⟨n, D, h1, h2, h3, h4⟩ := h
  obtain ⟨w', hrun, hown, hg⟩ := h2.drop (Maps.int_keyed hk) hm (Maps.keyOf_int_mk hk hx) ty
  refine ⟨w', hrun, ⟨n, _, h1, hown, h3.del _, fun y hy => ?_⟩, hg.grown⟩
  by_cases e : y = x
  · subst e
    rw [Maps.atKey_del_same]
    simp
  · rw [Maps.atKey_del_other (by simpa using e), h4 y hy]
    simp [e]

def chP (p : Option Nat) : Option Addr := p.map fun g => ⟨g, 0, none⟩
def undV (xs : List S41) (i : Nat) : Int := (rd_T41 xs (i : Int)).f0
/-- The first n steps, linked, the last of them ahead. -/
def Chain (w : World) (xs : List S41) : Nat → Option Nat → Prop
  | 0, p => p = none
  | n + 1, p => ∃ g A l c q, p = some g ∧ w.heap[g]? = some (.cells #[.int .i64 ((n : Int) + 1), .int .i64 (undV xs n), .slice A l c, .pointer (chP q)] 57 (0, 0)) ∧ Chain w xs n q
theorem Chain.below {w w' : World} {xs : List S41} (hb : Below w.heap.size w w') : ∀ (n : Nat) (p : Option Nat), Chain w xs n p → Chain w' xs n p
  | 0, _, h => h
  | n + 1, _, ⟨g, A, l, c, q, h1, h2, h3⟩ => ⟨g, A, l, c, q, h1, blk_below h2 hb, Chain.below hb n q h3⟩
theorem Chain.grown {w w' : World} {xs : List S41} {b : Nat} (hg : w.grownBy w' (some b)) (hm : ∀ cs t fr, w.heap[b]? ≠ some (.cells cs t fr)) : ∀ (n : Nat) (p : Option Nat), Chain w xs n p → Chain w' xs n p
  | 0, _, h => h
  | n + 1, _, ⟨g, A, l, c, q, h1, h2, h3⟩ => ⟨g, A, l, c, q, h1, blk_grown h2 hg (by rintro ⟨rfl⟩; exact hm _ _ _ h2), Chain.grown hg hm n q h3⟩
/-- How far a place in the chain stands from its end: the number that its node tells. -/
def chM (v : Value) (w : World) : Nat :=
  match v with
  | .pointer (some a) => match w.heap[a.block]? with
    | some (.cells cs _ _) => (intOf (cs.getD 0 undef)).toNat
    | _ => 0
  | _ => 0
theorem chM_is {w : World} {xs : List S41} : ∀ (n : Nat) (p : Option Nat), Chain w xs n p → chM (.pointer (chP p)) w = n
  | 0, _, h => by subst h; rfl
  | n + 1, _, ⟨g, A, l, c, q, h1, h2, h3⟩ => by
    subst h1
    show (match w.heap[g]? with | some (.cells cs _ _) => (intOf (cs.getD 0 undef)).toNat | _ => 0) = n + 1
    rw [h2]
    show (intOf (.int .i64 ((n : Int) + 1))).toNat = n + 1
    simp [intOf]
theorem SetM.noCells {P : Program} {kt et : TypeId} {w : World} {b B : Nat} {f : Int → Bool} (h : SetM P kt et w b B f) : ∀ cs t fr, w.heap[b]? ≠ some (.cells cs t fr) := by
  obtain ⟨n, D, h1, ⟨es, clock, hb, _⟩, h3, h4⟩ := h
  intro cs t fr e
  rw [hb] at e; cases e
theorem wfN {x : Int} (h1 : -1000000000 ≤ x) (h2 : x ≤ 1000000000) : (Lit.int .i64 x).wf = true := by
  simp [Lit.wf, IntKind.min, IntKind.max, IntKind.signed, IntKind.bits]; omega
set_option maxHeartbeats 4000000 in
set_option maxRecDepth 100000 in
theorem chain_walk (A0 : Option Addr) (c0 : Nat) (xs : List S41) (w : World) (hr : Kd.C k41 w A0 xs.length xs) (hc : xs.length ≤ c0) (hl : xs.length ≤ 1000) :
    Calls Try.prog 33 #[.slice A0 xs.length c0] w fun e w' => ∃ p, e = .returned (.pointer (chP p)) ∧ Chain w' xs xs.length p ∧ Below w.heap.size w w' := by
  have HR := Lib.hid hr; clear hr
  go_enter Try.func33, Try.ntmps33
  go_wp2_with fail
  go_loopw [8, 3] (fun v8 v3 w' => ∃ (j : Nat) (p : Option Nat), j ≤ xs.length ∧ v8 = .int .i64 j ∧ v3 = .pointer (chP p) ∧ Hid (Chain w' xs j p) ∧ Hid (Below w.heap.size w w')) (fun v8 _ _ => xs.length - (intOf v8).toNat)
  case atStart => exact ⟨0, none, by omega, rfl, rfl, Lib.hid rfl, Lib.hid (Below.refl _ _)⟩
  case round =>
    obtain ⟨j, p, hj, rfl, rfl, HC, HB⟩ := hrel
    by_cases hlt : j < xs.length
    · obtain ⟨ad, A1, c1, hA, hx0, hx1, _, _⟩ := at_T41 HR.out (j : Int) (by omega) (by omega)
      subst hA
      rw [Int.toNat_natCast] at hx0 hx1
      replace hx0 := pw_cell_below HB.out hx0
      replace hx1 := pw_cell_below HB.out hx1
      have hw1 : IntKind.i64.wrap ((j : Int) + 1) = (j : Int) + 1 := IntWalk.i64_in _ (by omega)
      have b1 : decide ((j : Int) < (xs.length : Int)) = true := decide_eq_true (by omega)
      have p1 : (0 ≤ (j : Int)) = True := eq_true (by omega)
      have p2 : ((j : Int) < (xs.length : Int)) = True := eq_true (by omega)
      go_wp2_with fail
      go_roundw
      case rel => exact ⟨j + 1, some _, by omega, by go_num, rfl, Lib.hid ⟨_, _, _, _, p, rfl, by have h_ := blk_new (wr.alloc (.cells #[.int .i64 (undV xs j), .slice A1 (rd_T41 xs (j : Int)).f1.length c1] 41)) (.cells #[.int .i64 ((j : Int) + 1), .int .i64 (undV xs j), .slice A1 (rd_T41 xs (j : Int)).f1.length c1, .pointer (chP p)] 57); rw [World.size_alloc] at h_; exact h_, Chain.below (below_alloc (below_alloc (Below.refl _ _) _) _) j p HC.out⟩, Lib.hid (below_alloc (below_alloc HB.out _) _)⟩
      case measure => simp [intOf]; omega
    · obtain rfl : j = xs.length := by omega
      have b1 : decide ((xs.length : Int) < (xs.length : Int)) = false := decide_eq_false (by omega)
      go_wp2_with fail
      go_ret
      exact ⟨p, rfl, HC.out, HB.out⟩
/-- What stands, from the last step on. -/
def stepF (u num : Int) (f : Int → Bool) : Int → Bool := if 0 < u ∧ f num = true then (fun y => decide (y ≠ u) && f y) else f
def standFrom (xs : List S41) : Nat → (Int → Bool) → (Int → Bool)
  | 0, f => f
  | n + 1, f => standFrom xs n (stepF (undV xs n) ((n : Int) + 1) f)
def stands (xs : List S41) : Int → Bool := standFrom xs xs.length (fun x => decide (1 ≤ x ∧ x ≤ (xs.length : Int)))
def HistOk (xs : List S41) : Prop := xs.length ≤ 60 ∧ ∀ i, i < xs.length → 0 ≤ undV xs i ∧ undV xs i ≤ (i : Int)
def histOkB (xs : List S41) : Bool := decide (xs.length ≤ 60 ∧ ∀ i, i < xs.length → 0 ≤ undV xs i ∧ undV xs i ≤ (i : Int))
set_option maxHeartbeats 4000000 in
set_option maxRecDepth 100000 in
theorem standing_walk (A0 : Option Addr) (c0 : Nat) (xs : List S41) (w : World) (hr : Kd.C k41 w A0 xs.length xs) (hc : xs.length ≤ c0) (hh : HistOk xs) :
    Calls Try.prog 28 #[.slice A0 xs.length c0] w fun e w' => ∃ b, e = .returned (.map (some b)) ∧ SetM Try.prog 3 4 w' b 60 (stands xs) ∧ Below w.heap.size w w' := by
  have HR := Lib.hid hr; clear hr
  obtain ⟨hl, hu⟩ := hh
  have HU := Lib.hid hu; clear hu
  have hz : ∀ W : World, (zeroValue 4).run Try.prog W = .ok (.bool false) W := fun W => by kernel_rfl
  have hmk : (Instr.makeMap 46 none).run Try.prog w = .ok (.map (some w.heap.size)) (w.alloc (.map #[] 0)) := rfl
  go_enter Try.func28, Try.ntmps28
  go_wp2_with fail
  clear hmk
  go_loopw [9] (fun v9 w' => ∃ (j : Nat), j ≤ xs.length ∧ v9 = .int .i64 j ∧ Hid (SetM Try.prog 3 4 w' w.heap.size j (fun x => decide (1 ≤ x ∧ x ≤ (j : Int)))) ∧ Hid (Below w.heap.size w w')) (fun v9 _ => xs.length - (intOf v9).toNat)
  case atStart => exact ⟨0, by omega, rfl, Lib.hid (by have := SetM.made Try.prog 3 4 w; refine (show (fun x : Int => decide (1 ≤ x ∧ x ≤ ((0 : Nat) : Int))) = (fun _ => false) from funext fun x => decide_eq_false (by omega)) ▸ this), Lib.hid (below_alloc (Below.refl _ _) _)⟩
  case round =>
    obtain ⟨j, hj, rfl, HS, HB⟩ := hrel
    by_cases hlt : j < xs.length
    · have hw1 : IntKind.i64.wrap ((j : Int) + 1) = (j : Int) + 1 := IntWalk.i64_in _ (by omega)
      have b1 : decide ((j : Int) < (xs.length : Int)) = true := decide_eq_true (by omega)
      obtain ⟨w9, hrun, hput, hgrow⟩ := SetM.put (mt := 46) HS.out Try.underlying3 Try.underlying4 Try.underlying46 (by simp only [maxLen]; omega) (wfN (x := (j : Int) + 1) (by omega) (by omega))
      rw [show (fun y : Int => decide (y = (j : Int) + 1) || decide (1 ≤ y ∧ y ≤ (j : Int))) = (fun y : Int => decide (1 ≤ y ∧ y ≤ ((j + 1 : Nat) : Int))) from funext fun y => by rw [← Bool.decide_or, decide_eq_decide]; omega] at hput
      have hbe := pw_below_grown HB.out _ (Nat.le_trans HB.out.size (Nat.le_refl _)) hgrow (fun k hk => by cases hk; exact Nat.le_refl _)
      have HBE := Lib.hid hbe; have HPUT := Lib.hid hput; clear hbe hput hgrow
      go_wp2_with fail
      go_roundw
      case rel => exact ⟨j + 1, by omega, by go_num, HPUT, HBE⟩
      case measure => simp [intOf]; omega
    · obtain rfl : j = xs.length := by omega
      have b1 : decide ((xs.length : Int) < (xs.length : Int)) = false := decide_eq_false (by omega)
      go_wp2_with fail
      refine (chain_walk A0 c0 xs _ (Kd.C_below HR.out HB.out) hc (by omega)).mono ?_; rintro e w2 ⟨p, rfl, hch, hd⟩
      have HC := Lib.hid hch; have HS2 := Lib.hid (HS.out.below hd); have HB2 := Lib.hid (below_step HB.out hd); clear hch hd
      have hstart : standFrom xs xs.length (fun x => decide (1 ≤ x ∧ x ≤ (xs.length : Int))) = stands xs := rfl
      go_wp2_with fail
      go_loopw [5] (fun v5 w' => ∃ (j : Nat) (p : Option Nat) (f : Int → Bool), j ≤ xs.length ∧ v5 = .pointer (chP p) ∧ Hid (Chain w' xs j p) ∧ Hid (SetM Try.prog 3 4 w' w.heap.size xs.length f) ∧ Hid (standFrom xs j f = stands xs) ∧ Hid (Below w.heap.size w w')) (fun v5 w' => chM v5 w')
      case atStart => exact ⟨xs.length, p, _, Nat.le_refl _, rfl, HC, HS2, Lib.hid hstart, HB2⟩
      case round =>
        clear HC HS2 HB2 hstart
        obtain ⟨j, p, f, hj, rfl, HC, HS, HF, HB⟩ := hrel
        have hm0 := chM_is j p HC.out
        cases j with
        | zero =>
          obtain rfl : p = none := HC.out
          go_wp2_with fail
          go_ret
          exact ⟨_, rfl, by have := HS.out; rw [show f = stands xs from HF.out] at this; obtain ⟨n, D, h1, h2⟩ := this; exact ⟨n, D, by omega, h2⟩, HB.out⟩
        | succ j =>
          obtain ⟨g, A, l, c, q, rfl, hg, hch⟩ := HC.out
          have hu := HU.out j (by omega)
          have hm1 : chM (.pointer (some ⟨g, 0, none⟩)) _ = j + 1 := hm0
          rw [show chP (some g) = some (⟨g, 0, none⟩ : Addr) from rfl]
          have HCH := Lib.hid hch; have HG := Lib.hid hg
          have y0 := blk_cell hg 0; have y1 := blk_cell hg 1; have y3 := blk_cell hg 3
          simp only [List.getElem?_toArray, List.getElem?_cons_zero, List.getElem?_cons_succ] at y0 y1 y3
          have hlook0 := SetM.look (mt := 46) HS.out Try.underlying3 Try.underlying4 Try.underlying46 (hz _) (wfN (x := (j : Int) + 1) (by omega) (by omega))
          generalize hU : undV xs j = u at *
          clear hch
          by_cases h1 : 0 < u
          · have b1 : decide (0 < u) = true := decide_eq_true h1
            cases hf : f ((j : Int) + 1) with
            | false =>
              rw [hf] at hlook0
              have hst : standFrom xs j f = stands xs := by have := HF.out; unfold standFrom stepF at this; rw [hU, if_neg (by rw [hf]; simp)] at this; exact this
              have HST := Lib.hid hst; clear hst hg
              go_wp2_with fail
              go_roundw
              case rel => exact ⟨j, q, f, by omega, rfl, HCH, HS, HST, HB⟩
              case measure => rw [chM_is j q HCH.out, hm1]; omega
            | true =>
              rw [hf] at hlook0
              have hst : standFrom xs j (fun y => decide (y ≠ u) && f y) = stands xs := by have := HF.out; unfold standFrom stepF at this; rw [hU, if_pos ⟨h1, hf⟩] at this; exact this
              obtain ⟨w9, hrun, hdel, hgrow⟩ := SetM.del (mt := 46) HS.out Try.underlying3 Try.underlying46 (wfN (x := u) (by omega) (by omega)) 0
              have HST := Lib.hid hst; clear hst hg
              have HDEL := Lib.hid hdel; have HC9 := Lib.hid (Chain.grown hgrow HS.out.noCells j q HCH.out); have HB9 := Lib.hid (pw_below_grown HB.out _ (Nat.le_trans HB.out.size (Nat.le_refl _)) hgrow (fun k hk => by cases hk; exact Nat.le_refl _)); have HG9 := blk_grown HG.out hgrow (by rintro ⟨rfl⟩; exact HS.out.noCells _ _ _ HG.out)
              have z3 := blk_cell HG9 3
              simp only [List.getElem?_toArray, List.getElem?_cons_zero, List.getElem?_cons_succ] at z3
              clear hdel hgrow HG9
              go_wp2_with fail
              go_roundw
              case rel => exact ⟨j, q, _, by omega, rfl, HC9, HDEL, HST, HB9⟩
              case measure => rw [chM_is j q HC9.out, hm1]; omega
          · have b1 : decide (0 < u) = false := decide_eq_false h1
            have hst : standFrom xs j f = stands xs := by have := HF.out; unfold standFrom stepF at this; rw [hU, if_neg (fun h => h1 h.1)] at this; exact this
            have HST := Lib.hid hst; clear hst hg
            go_wp2_with fail
            go_roundw
            case rel => exact ⟨j, q, f, by omega, rfl, HCH, HS, HST, HB⟩
            case measure => rw [chM_is j q HCH.out, hm1]; omega
/-- The last step that stands and is as asked: its number. -/
def lastFrom (st : Int → Bool) (ask : Nat → Bool) : Nat → Int
  | 0 => 0
  | n + 1 => if (st ((n : Int) + 1) && ask n) = true then (n : Int) + 1 else lastFrom st ask n
theorem lastFrom_succ (st : Int → Bool) (ask : Nat → Bool) (n : Nat) : lastFrom st ask (n + 1) = if (st ((n : Int) + 1) && ask n) = true then (n : Int) + 1 else lastFrom st ask n := rfl
def redoB (xs : List S41) (u : Int) : Bool := decide (0 < u) && (undV xs (u - 1).toNat == 0)
set_option maxHeartbeats 4000000 in
set_option maxRecDepth 100000 in
theorem redo_ask (xs : List S41) (A0 : Option Addr) (c0 g0 : Nat) (u : Int) (A : Option Addr) (l c : Nat) (w : World) (hr : Kd.C k41 w A0 xs.length xs) (hl : xs.length ≤ 1000) (hun : u ≤ (xs.length : Int)) (hcap : w.heap[g0]? = some (.cells #[.slice A0 xs.length c0] 25 (0, 0))) :
    Calls Try.prog 26 #[.agg #[.int .i64 u, .slice A l c], .pointer (some ⟨g0, 0, none⟩)] w fun e w' => e = .returned (.bool (redoB xs u)) ∧ Below w.heap.size w w' := by
  have hb := below_alloc (Below.refl w.heap.size w) (.cells #[.int .i64 u, .slice A l c] 41)
  have h0 := blk_new w (.cells #[.int .i64 u, .slice A l c] 41)
  have y0 := blk_cell h0 0
  have yc := blk_cell (blk_below hcap hb) 0
  simp only [List.getElem?_toArray, List.getElem?_cons_zero] at y0 yc
  unfold redoB
  by_cases h1 : 0 < u
  · have b1 : decide (0 < u) = true := decide_eq_true h1
    obtain ⟨v, hv⟩ : ∃ v, u - 1 = v := ⟨_, rfl⟩
    rw [hv]
    obtain ⟨ad, A1, c1, hA, hx0, hx1, _, _⟩ := at_T41 hr v (by omega) (by omega)
    subst hA
    have hx2 := pw_cell_below hb hx0
    have hw1 : IntKind.i64.wrap (u - 1) = v := by rw [IntWalk.i64_in _ (by omega)]; exact hv
    have p1 : (0 ≤ v) = True := eq_true (by omega)
    have p2 : (v < (xs.length : Int)) = True := eq_true (by omega)
    have hun2 : (rd_T41 xs v).f0 = undV xs v.toNat := by unfold undV; rw [show ((v.toNat : Nat) : Int) = v from by omega]
    rw [hun2] at hx2
    clear hv
    have HB := Lib.hid hb; clear hb h0 hx0 hx1 hr hcap hun2
    go_enter Try.func26, Try.ntmps26
    go_wp2_with fail
    go_ret
    exact ⟨by first | rfl | (rw [b1]; rfl), HB.out⟩
  · have b1 : decide (0 < u) = false := decide_eq_false h1
    have HB := Lib.hid hb; clear hb h0 hr hcap
    go_enter Try.func26, Try.ntmps26
    go_wp2_with fail
    go_ret
    exact ⟨by first | rfl | (rw [b1]; rfl), HB.out⟩
set_option maxHeartbeats 8000000 in
set_option maxRecDepth 100000 in
theorem lastThat_redo (A0 : Option Addr) (c0 : Nat) (xs : List S41) (w : World) (hr : Kd.C k41 w A0 xs.length xs) (hc : xs.length ≤ c0) (hh : HistOk xs) (hs : impl_asSaid.f 10000 xs = some true) (g0 : Nat) (hcap : w.heap[g0]? = some (.cells #[.slice A0 xs.length c0] 25 (0, 0))) :
    Calls Try.prog 23 #[.slice A0 xs.length c0, .func (.func 26) #[] #[.pointer (some ⟨g0, 0, none⟩)]] w fun e w' => e = .returned (.int .i64 (lastFrom (stands xs) (fun i => redoB xs (undV xs i)) xs.length)) ∧ Below w.heap.size w w' := by
  have HR := Lib.hid hr; have HH := Lib.hid hh; have HS := Lib.hid hs; clear hr hs
  obtain ⟨hl, hu⟩ := hh
  have HU := Lib.hid hu; clear hu
  have hz : ∀ W : World, (zeroValue 4).run Try.prog W = .ok (.bool false) W := fun W => by kernel_rfl
  have HCAP := Lib.hid hcap; clear hcap
  go_enter Try.func23, Try.ntmps23
  go_wp2_with fail
  refine (impl_asSaid.calls 10000 A0 c0 xs true w HR.out hc HS.out).mono ?_; rintro e w1 ⟨rfl, hd⟩
  have HB1 := Lib.hid hd; clear hd
  go_wp2_with fail
  refine (standing_walk A0 c0 xs w1 (Kd.C_below HR.out HB1.out) hc HH.out).mono ?_; rintro e w2 ⟨b, rfl, hset, hd⟩
  have HB2 := Lib.hid (below_step HB1.out hd); have HM2 := Lib.hid hset; clear hd hset
  go_wp2_with fail
  refine (chain_walk A0 c0 xs w2 (Kd.C_below HR.out HB2.out) hc (by omega)).mono ?_; rintro e w3 ⟨p, rfl, hch, hd⟩
  have HB3 := Lib.hid (below_step HB2.out hd); have HM3 := Lib.hid (HM2.out.below hd); have HC3 := Lib.hid hch; clear hd hch
  go_wp2_with fail
  go_loopw [6] (fun v6 w' => ∃ (j : Nat) (p : Option Nat), j ≤ xs.length ∧ v6 = .pointer (chP p) ∧ Hid (Chain w' xs j p) ∧ Hid (SetM Try.prog 3 4 w' b 60 (stands xs)) ∧ Hid (lastFrom (stands xs) (fun i => redoB xs (undV xs i)) xs.length = lastFrom (stands xs) (fun i => redoB xs (undV xs i)) j) ∧ Hid (Below w.heap.size w w')) (fun v6 w' => chM v6 w')
  case atStart => exact ⟨xs.length, p, Nat.le_refl _, rfl, HC3, HM3, Lib.hid rfl, HB3⟩
  case round =>
    clear HC3 HM3 HB3 HB2 HM2 HB1
    obtain ⟨j, p, hj, rfl, HC, HM, HF, HB⟩ := hrel
    have hm0 := chM_is j p HC.out
    cases j with
    | zero =>
      obtain rfl : p = none := HC.out
      go_wp2_with fail
      go_ret
      exact ⟨by rw [HF.out]; rfl, HB.out⟩
    | succ j =>
      obtain ⟨g, A, l, c, q, rfl, hg, hch⟩ := HC.out
      have hu := HU.out j (by omega)
      have hm1 : chM (.pointer (some ⟨g, 0, none⟩)) _ = j + 1 := hm0
      rw [show chP (some g) = some (⟨g, 0, none⟩ : Addr) from rfl]
      have HCH := Lib.hid hch; have HG := Lib.hid hg
      have y0 := blk_cell hg 0; have y1 := blk_cell hg 1; have y2 := blk_cell hg 2; have y3 := blk_cell hg 3
      simp only [List.getElem?_toArray, List.getElem?_cons_zero, List.getElem?_cons_succ] at y0 y1 y2 y3
      have hlook0 := SetM.look (mt := 46) HM.out Try.underlying3 Try.underlying4 Try.underlying46 (hz _) (wfN (x := (j : Int) + 1) (by omega) (by omega))
      clear hch hg
      cases hf : stands xs ((j : Int) + 1) with
      | false =>
        rw [hf] at hlook0
        have HF2 : Hid (lastFrom (stands xs) (fun i => redoB xs (undV xs i)) xs.length = lastFrom (stands xs) (fun i => redoB xs (undV xs i)) j) := Lib.hid (by rw [HF.out, lastFrom_succ, hf]; simp)
        go_wp2_with fail
        go_roundw
        case rel => exact ⟨j, q, by omega, rfl, HCH, HM, HF2, HB⟩
        case measure => rw [chM_is j q HCH.out, hm1]; omega
      | true =>
        rw [hf] at hlook0
        obtain ⟨a, ha⟩ : ∃ a : Bool, (redoB xs (undV xs j)) = a := ⟨_, rfl⟩
        have HA := Lib.hid ha; clear ha
        have HF3 := Lib.hid (show lastFrom (stands xs) (fun i => redoB xs (undV xs i)) xs.length = if a = true then ((j : Int) + 1) else lastFrom (stands xs) (fun i => redoB xs (undV xs i)) j by rw [HF.out, lastFrom_succ, hf, Bool.true_and, HA.out]); clear hf
        go_wp2_with fail
        refine (redo_ask xs A0 c0 g0 (undV xs j) A l c _ (Kd.C_below HR.out HB.out) (by omega) (by omega) (blk_below HCAP.out HB.out)).mono ?_; rintro e w5 ⟨rfl, hd⟩
        rw [show (redoB xs (undV xs j)) = a from HA.out]
        have HCH5 := Lib.hid (Chain.below hd j q HCH.out); have HM5 := Lib.hid (HM.out.below hd); have HB5 := Lib.hid (below_step HB.out hd); have hg5 := blk_below HG.out hd
        have z0 := blk_cell hg5 0; have z3 := blk_cell hg5 3
        simp only [List.getElem?_toArray, List.getElem?_cons_zero, List.getElem?_cons_succ] at z0 z3
        clear hd hg5
        cases a
        · go_wp2_with fail
          go_roundw
          case rel => exact ⟨j, q, by omega, rfl, HCH5, HM5, Lib.hid (by rw [HF3.out]; rfl), HB5⟩
          case measure => rw [chM_is j q HCH5.out, hm1]; omega
        · go_wp2_with fail
          go_ret
          exact ⟨by rw [HF3.out]; rfl, HB5.out⟩
def impl_LastRedo.f (l0 : List S41) : Option Int := (impl_asSaid.f 10000 l0).bind fun ok => if ok = true then (if histOkB l0 = true then some (lastFrom (stands l0) (fun i => redoB l0 (undV l0 i)) l0.length) else none) else some 0
theorem lastThat_no (A0 : Option Addr) (c0 : Nat) (xs : List S41) (fv : Value) (w : World) (hr : Kd.C k41 w A0 xs.length xs) (hc : xs.length ≤ c0) (hs : impl_asSaid.f 10000 xs = some false) :
    Calls Try.prog 23 #[.slice A0 xs.length c0, fv] w fun e w' => e = .returned (.int .i64 0) ∧ Below w.heap.size w w' := by
  have HR := Lib.hid hr; have HS := Lib.hid hs; clear hr hs
  go_enter Try.func23, Try.ntmps23
  go_wp2_with fail
  refine (impl_asSaid.calls 10000 A0 c0 xs false w HR.out hc HS.out).mono ?_; rintro e w1 ⟨rfl, hd⟩
  have HB1 := Lib.hid hd; clear hd
  go_wp2_with fail
  go_ret
  exact ⟨rfl, HB1.out⟩
set_option maxHeartbeats 4000000 in
theorem LastRedo_any (A0 : Option Addr) (c0 : Nat) (xs : List S41) (r : Int) (w W : World) (hW : W = w.alloc (.cells #[.slice A0 xs.length c0] 25)) (h : Calls Try.prog 23 #[.slice A0 xs.length c0, .func (.func 26) #[] #[.pointer (some ⟨w.heap.size, 0, none⟩)]] W fun e w' => e = .returned (.int .i64 r) ∧ Below W.heap.size W w') :
    Calls Try.prog 12 #[.slice A0 xs.length c0] w fun e w' => e = .returned (.int .i64 r) ∧ Below w.heap.size w w' := by
  subst hW
  have H := Lib.hid h; clear h
  have yc := blk_cell (blk_new w (.cells #[.slice A0 xs.length c0] 25)) 0
  simp only [List.getElem?_toArray, List.getElem?_cons_zero] at yc
  go_enter Try.func12, Try.ntmps12
  go_wp2_with fail
  refine H.out.mono ?_; rintro e w1 ⟨rfl, hd⟩
  have HB1 := Lib.hid (below_step (below_alloc (Below.refl w.heap.size w) (.cells #[.slice A0 xs.length c0] 25)) hd); clear hd
  go_wp2_with fail
  go_ret
  exact ⟨rfl, HB1.out⟩
theorem impl_LastRedo.calls (A0 : Option Addr) (c0 : Nat) (l0 : List S41) (r : Int) (w : World) (hr0 : Kd.C k41 w A0 l0.length l0) (hc0 : l0.length ≤ c0) (h : impl_LastRedo.f l0 = some r) :
    Calls Try.prog 12 #[.slice A0 l0.length c0] w fun e w' => e = .returned (.int .i64 r) ∧ Below w.heap.size w w' := by
  unfold impl_LastRedo.f at h
  have hr1 := Kd.C_below hr0 (below_alloc (Below.refl w.heap.size w) (.cells #[.slice A0 l0.length c0] 25))
  obtain ⟨ok, hok, h⟩ := Option.bind_eq_some_iff.1 h
  cases ok with
  | false =>
    rw [if_neg (by simp)] at h
    obtain rfl := Option.some.inj h
    exact LastRedo_any A0 c0 l0 0 w _ rfl (lastThat_no A0 c0 l0 _ _ hr1 hc0 hok)
  | true =>
    rw [if_pos rfl] at h
    by_cases hh : histOkB l0 = true
    · rw [if_pos hh] at h
      have h_ : l0.length ≤ 60 ∧ ∀ i, i < l0.length → 0 ≤ undV l0 i ∧ undV l0 i ≤ (i : Int) := of_decide_eq_true hh
      have hh : HistOk l0 := h_
      obtain rfl := Option.some.inj h
      exact LastRedo_any A0 c0 l0 _ w _ rfl (lastThat_redo A0 c0 l0 _ hr1 hc0 hh hok w.heap.size (blk_new w _))
    · rw [if_neg hh] at h; cases h

/-! ### laws_FnExactLastRedo: function 4 -/
def laws_FnExactLastRedo.f (k : Nat) (l0 : List (S37)) : Option (Bool) := (laws_szStepS.f k l0 1048576).bind fun t175 => (if t175 < 0 then (some true) else ((laws_toStepS.f k l0).bind fun t176 => ((spec_LastRedo.f k t176).bind fun t179 => ((laws_toStepS.f k l0).bind fun t180 => ((impl_LastRedo.f t180).bind fun t183 => (if t183 = t179 then ((laws_toStepS.f k l0).bind fun t184 => ((laws_eqStepS.f k t180 t184).bind fun t187 => (if t187 = true then (some true) else (some false)))) else (some false)))))))
theorem laws_FnExactLastRedo.mono : ∀ a0 k, LeO (laws_FnExactLastRedo.f k a0) (laws_FnExactLastRedo.f (k + 1) a0) := by
  intro a0 k
  unfold laws_FnExactLastRedo.f
  repeat' first
      | (with_reducible exact laws_eqStepS.mono _ _ _)
      | (with_reducible exact laws_szStepS.mono _ _ _)
      | (with_reducible exact laws_toStepS.mono _ _)
      | (with_reducible exact spec_LastRedo.mono _ _)
      | (with_reducible exact LeO.refl _)
      | (with_reducible exact LeO.none _)
      | (with_reducible refine LeO.ite ?_ ?_)
      | (with_reducible refine LeO.bind ?_ (fun _ => ?_))
      | exact laws_eqStepS.mono _ _ _
      | exact laws_szStepS.mono _ _ _
      | exact laws_toStepS.mono _ _
      | exact spec_LastRedo.mono _ _
      | exact LeO.none _
      | refine LeO.ite ?_ ?_
      | refine LeO.bind ?_ (fun _ => ?_)
set_option maxHeartbeats 8000000 in
set_option maxRecDepth 100000 in
theorem laws_FnExactLastRedo.calls (k : Nat) (A0 : Option Addr) (c0 : Nat) (l0 : List (S37)) (r : Bool) (w : World) (hr0 : Kd.C k37 w A0 l0.length l0) (hc0 : l0.length ≤ c0) (h : laws_FnExactLastRedo.f k l0 = some r) :
    Calls Try.prog 4 #[.slice A0 l0.length c0] w fun e w' => e = .returned (.bool r) ∧ Below w.heap.size w w' := by
  have HR0 := Aside0.mk hr0
  have HC0 := Aside0.mk hc0
  clear hr0 hc0
  have HB := Aside0.mk (Below.refl w.heap.size w)
  have H : ((laws_szStepS.f k l0 1048576).bind fun t175 => (if t175 < 0 then (some true) else ((laws_toStepS.f k l0).bind fun t176 => ((spec_LastRedo.f k t176).bind fun t179 => ((laws_toStepS.f k l0).bind fun t180 => ((impl_LastRedo.f t180).bind fun t183 => (if t183 = t179 then ((laws_toStepS.f k l0).bind fun t184 => ((laws_eqStepS.f k t180 t184).bind fun t187 => (if t187 = true then (some true) else (some false)))) else (some false)))))))) = some r := h
  clear h
  replace H := Option.bind_eq_some_iff.mp H
  obtain ⟨t175, A20, H⟩ := H
  replace H : (if t175 < 0 then (some true) else ((laws_toStepS.f k l0).bind fun t176 => ((spec_LastRedo.f k t176).bind fun t179 => ((laws_toStepS.f k l0).bind fun t180 => ((impl_LastRedo.f t180).bind fun t183 => (if t183 = t179 then ((laws_toStepS.f k l0).bind fun t184 => ((laws_eqStepS.f k t180 t184).bind fun t187 => (if t187 = true then (some true) else (some false)))) else (some false))))))) = some r := H
  have A2 := Aside0.mk A20
  clear A20
  by_cases c3 : t175 < 0
  · rw [if_pos c3] at H
    have c3b0 : decide (t175 < 0) = true := decide_eq_true c3
    clear c3
    obtain rfl := Option.some.inj H
    go_enter Try.func4, Try.ntmps4
    go_wp2_with (first | ((with_reducible refine gate_callee (f := 6) rfl ?_); refine goesL_ (some 9) rfl rfl Try.func6 (by kernel_rfl) rfl #[.slice A0 l0.length c0, .int .i64 1048576] rfl (by (try simp only [List.map_toArray, List.map_cons, List.map_nil]); first | done | rfl | (simp only [List.length_drop, List.length_take]; rfl)) ?_; (with_reducible refine (laws_szStepS.calls k _ _ l0 1048576 t175 _ ?side1 ?side2 A2.out).mono ?_); (case side1 => repeat (first | exact HR0.out | (with_reducible refine Kd.C_alloc ?_ _) | (with_reducible refine Kd.C_drewN ?_ _) | (with_reducible refine Kd.C_drew ?_))); (case side2 => exact HC0.out); rintro e w4 ⟨rfl, hb⟩; refine ⟨_, rfl, ?_⟩; have n0_ := Aside0.mk (below_step (by repeat (first | (with_reducible first | exact HB.out | apply below_alloc | apply pw_below_drewN | apply below_drew1) | exact HB.out)) hb); clear HB; have HB := n0_; clear n0_; (try clear hb); (try clear hb2); (try clear hk); (try clear hi)))
    go_ret
    exact ⟨by first | rfl | (simp [errW_none, errW_some] <;> rfl) | (simp [*, errW_none, errW_some] <;> rfl), by repeat (first | (with_reducible first | exact HB.out | apply below_alloc | apply pw_below_drewN | apply below_drew1) | exact HB.out)⟩
  · rw [if_neg c3] at H
    have c3b0 : decide (t175 < 0) = false := decide_eq_false c3
    clear c3
    replace H := Option.bind_eq_some_iff.mp H
    obtain ⟨t176, A50, H⟩ := H
    replace H : ((spec_LastRedo.f k t176).bind fun t179 => ((laws_toStepS.f k l0).bind fun t180 => ((impl_LastRedo.f t180).bind fun t183 => (if t183 = t179 then ((laws_toStepS.f k l0).bind fun t184 => ((laws_eqStepS.f k t180 t184).bind fun t187 => (if t187 = true then (some true) else (some false)))) else (some false))))) = some r := H
    have A5 := Aside0.mk A50
    clear A50
    replace H := Option.bind_eq_some_iff.mp H
    obtain ⟨t179, A60, H⟩ := H
    replace H : ((laws_toStepS.f k l0).bind fun t180 => ((impl_LastRedo.f t180).bind fun t183 => (if t183 = t179 then ((laws_toStepS.f k l0).bind fun t184 => ((laws_eqStepS.f k t180 t184).bind fun t187 => (if t187 = true then (some true) else (some false)))) else (some false)))) = some r := H
    have A6 := Aside0.mk A60
    clear A60
    replace H := Option.bind_eq_some_iff.mp H
    obtain ⟨t180, A70, H⟩ := H
    replace H : ((impl_LastRedo.f t180).bind fun t183 => (if t183 = t179 then ((laws_toStepS.f k l0).bind fun t184 => ((laws_eqStepS.f k t180 t184).bind fun t187 => (if t187 = true then (some true) else (some false)))) else (some false))) = some r := H
    have A7 := Aside0.mk A70
    clear A70
    replace H := Option.bind_eq_some_iff.mp H
    obtain ⟨t183, A80, H⟩ := H
    replace H : (if t183 = t179 then ((laws_toStepS.f k l0).bind fun t184 => ((laws_eqStepS.f k t180 t184).bind fun t187 => (if t187 = true then (some true) else (some false)))) else (some false)) = some r := H
    have A8 := Aside0.mk A80
    clear A80
    by_cases c9 : t183 = t179
    · rw [if_pos c9] at H
      have c9b0 : (t183 == t179) = true := beq_iff_eq.mpr c9
      have c9b1 : (t183 != t179) = false := bne_eq_false_iff_eq.mpr c9
      clear c9
      replace H := Option.bind_eq_some_iff.mp H
      obtain ⟨t184, A100, H⟩ := H
      replace H : ((laws_eqStepS.f k t180 t184).bind fun t187 => (if t187 = true then (some true) else (some false))) = some r := H
      have A10 := Aside0.mk A100
      clear A100
      replace H := Option.bind_eq_some_iff.mp H
      obtain ⟨t187, A110, H⟩ := H
      replace H : (if t187 = true then (some true) else (some false)) = some r := H
      have A11 := Aside0.mk A110
      clear A110
      by_cases c12 : t187 = true
      · subst c12
        have H1 : (some true) = some r := by rw [if_pos rfl] at H; exact H
        clear H
        have H := H1
        clear H1
        obtain rfl := Option.some.inj H
        go_enter Try.func4, Try.ntmps4
        go_wp2_with (first | ((with_reducible refine gate_callee (f := 6) rfl ?_); refine goesL_ (some 9) rfl rfl Try.func6 (by kernel_rfl) rfl #[.slice A0 l0.length c0, .int .i64 1048576] rfl (by (try simp only [List.map_toArray, List.map_cons, List.map_nil]); first | done | rfl | (simp only [List.length_drop, List.length_take]; rfl)) ?_; (with_reducible refine (laws_szStepS.calls k _ _ l0 1048576 t175 _ ?side1 ?side2 A2.out).mono ?_); (case side1 => repeat (first | exact HR0.out | (with_reducible refine Kd.C_alloc ?_ _) | (with_reducible refine Kd.C_drewN ?_ _) | (with_reducible refine Kd.C_drew ?_))); (case side2 => exact HC0.out); rintro e w13 ⟨rfl, hb⟩; refine ⟨_, rfl, ?_⟩; have n0_ := Aside0.mk (below_step (by repeat (first | (with_reducible first | exact HB.out | apply below_alloc | apply pw_below_drewN | apply below_drew1) | exact HB.out)) hb); clear HB; have HB := n0_; clear n0_; (try clear hb); (try clear hb2); (try clear hk); (try clear hi)) | ((with_reducible refine gate_callee (f := 8) rfl ?_); refine goesL_ (some 13) rfl rfl Try.func8 (by kernel_rfl) rfl #[.slice A0 l0.length c0] rfl (by (try simp only [List.map_toArray, List.map_cons, List.map_nil]); first | done | rfl | (simp only [List.length_drop, List.length_take]; rfl)) ?_; (with_reducible refine (laws_toStepS.calls k _ _ l0 t176 _ ?side1 ?side2 A5.out).mono ?_); (case side1 => repeat (first | exact (Kd.C_below HR0.out HB.out) | (with_reducible refine Kd.C_alloc ?_ _) | (with_reducible refine Kd.C_drewN ?_ _) | (with_reducible refine Kd.C_drew ?_))); (case side2 => exact HC0.out); rintro e w14 ⟨v177, rfl, ho0, hb⟩; refine ⟨_, rfl, ?_⟩; have n0_ := Aside0.mk (Kd.S_lower ho0 (below_size (by repeat (first | (with_reducible first | exact HB.out | apply below_alloc | apply pw_below_drewN | apply below_drew1) | exact HB.out)))); have n1_ := Aside0.mk (below_step (by repeat (first | (with_reducible first | exact HB.out | apply below_alloc | apply pw_below_drewN | apply below_drew1) | exact HB.out)) hb); clear HB; have HO178 := n0_; have HB := n1_; clear n0_ n1_; (try clear hb); (try clear hb2); (try clear hk); (try clear hi); (try clear ho0); obtain ⟨Ao15, co15, eo15⟩ := Kd.S_slice HO178.out; subst eo15) | ((with_reducible refine gate_callee (f := 11) rfl ?_); refine goesL_ (some 14) rfl rfl Try.func11 (by kernel_rfl) rfl #[.slice Ao15 t176.length co15] rfl (by (try simp only [List.map_toArray, List.map_cons, List.map_nil]); first | done | rfl | (simp only [List.length_drop, List.length_take]; rfl)) ?_; (with_reducible refine (spec_LastRedo.calls k _ _ t176 t179 _ ?side1 ?side2 A6.out).mono ?_); (case side1 => repeat (first | exact (Kd.S_reads' HO178.out).2.2 | (with_reducible refine Kd.C_alloc ?_ _) | (with_reducible refine Kd.C_drewN ?_ _) | (with_reducible refine Kd.C_drew ?_))); (case side2 => exact (Kd.S_reads' HO178.out).2.1); rintro e w16 ⟨rfl, hb⟩; refine ⟨_, rfl, ?_⟩; have n0_ := Aside0.mk (Kd.S_below (by (with_reducible repeat (first | apply Kd.S_alloc | apply Kd.S_drewN | apply Kd.S_drew)); exact HO178.out) hb); have n1_ := Aside0.mk (below_step (by repeat (first | (with_reducible first | exact HB.out | apply below_alloc | apply pw_below_drewN | apply below_drew1) | exact HB.out)) hb); clear HO178; clear HB; have HO178 := n0_; have HB := n1_; clear n0_ n1_; (try clear hb); (try clear hb2); (try clear hk); (try clear hi)) | ((with_reducible refine gate_callee (f := 8) rfl ?_); refine goesL_ (some 16) rfl rfl Try.func8 (by kernel_rfl) rfl #[.slice A0 l0.length c0] rfl (by (try simp only [List.map_toArray, List.map_cons, List.map_nil]); first | done | rfl | (simp only [List.length_drop, List.length_take]; rfl)) ?_; (with_reducible refine (laws_toStepS.calls k _ _ l0 t180 _ ?side1 ?side2 A7.out).mono ?_); (case side1 => repeat (first | exact (Kd.C_below HR0.out HB.out) | (with_reducible refine Kd.C_alloc ?_ _) | (with_reducible refine Kd.C_drewN ?_ _) | (with_reducible refine Kd.C_drew ?_))); (case side2 => exact HC0.out); rintro e w17 ⟨v181, rfl, ho0, hb⟩; refine ⟨_, rfl, ?_⟩; have n0_ := Aside0.mk (Kd.S_elder' (by (with_reducible repeat (first | apply Kd.S_alloc | apply Kd.S_drewN | apply Kd.S_drew)); exact HO178.out) (Kd.S_base ho0) hb); have n1_ := Aside0.mk (Kd.S_lower (Kd.S_new' ho0 (Kd.S_lt (by (with_reducible repeat (first | apply Kd.S_alloc | apply Kd.S_drewN | apply Kd.S_drew)); exact HO178.out))) (below_size (by repeat (first | (with_reducible first | exact HB.out | apply below_alloc | apply pw_below_drewN | apply below_drew1) | exact HB.out)))); have n2_ := Aside0.mk (below_step (by repeat (first | (with_reducible first | exact HB.out | apply below_alloc | apply pw_below_drewN | apply below_drew1) | exact HB.out)) hb); clear HO178; clear HB; have HO178 := n0_; have HO182 := n1_; have HB := n2_; clear n0_ n1_ n2_; (try clear hb); (try clear hb2); (try clear hk); (try clear hi); (try clear ho0); obtain ⟨Ao18, co18, eo18⟩ := Kd.S_slice HO182.out; subst eo18) | ((with_reducible refine gate_callee (f := 12) rfl ?_); refine goesL_ (some 18) rfl rfl Try.func12 (by kernel_rfl) rfl #[.slice Ao18 t180.length co18] rfl (by (try simp only [List.map_toArray, List.map_cons, List.map_nil]); first | done | rfl | (simp only [List.length_drop, List.length_take]; rfl)) ?_; (with_reducible refine (impl_LastRedo.calls _ _ t180 t183 _ ?side1 ?side2 A8.out).mono ?_); (case side1 => repeat (first | exact (Kd.S_reads' HO182.out).2.2 | (with_reducible refine Kd.C_alloc ?_ _) | (with_reducible refine Kd.C_drewN ?_ _) | (with_reducible refine Kd.C_drew ?_))); (case side2 => exact (Kd.S_reads' HO182.out).2.1); rintro e w19 ⟨rfl, hb⟩; refine ⟨_, rfl, ?_⟩; have n0_ := Aside0.mk (Kd.S_below (by (with_reducible repeat (first | apply Kd.S_alloc | apply Kd.S_drewN | apply Kd.S_drew)); exact HO178.out) hb); have n1_ := Aside0.mk (Kd.S_below (by (with_reducible repeat (first | apply Kd.S_alloc | apply Kd.S_drewN | apply Kd.S_drew)); exact HO182.out) hb); have n2_ := Aside0.mk (below_step (by repeat (first | (with_reducible first | exact HB.out | apply below_alloc | apply pw_below_drewN | apply below_drew1) | exact HB.out)) hb); clear HO178; clear HO182; clear HB; have HO178 := n0_; have HO182 := n1_; have HB := n2_; clear n0_ n1_ n2_; (try clear hb); (try clear hb2); (try clear hk); (try clear hi)) | ((with_reducible refine gate_callee (f := 8) rfl ?_); refine goesL_ (some 24) rfl rfl Try.func8 (by kernel_rfl) rfl #[.slice A0 l0.length c0] rfl (by (try simp only [List.map_toArray, List.map_cons, List.map_nil]); first | done | rfl | (simp only [List.length_drop, List.length_take]; rfl)) ?_; (with_reducible refine (laws_toStepS.calls k _ _ l0 t184 _ ?side1 ?side2 A10.out).mono ?_); (case side1 => repeat (first | exact (Kd.C_below HR0.out HB.out) | (with_reducible refine Kd.C_alloc ?_ _) | (with_reducible refine Kd.C_drewN ?_ _) | (with_reducible refine Kd.C_drew ?_))); (case side2 => exact HC0.out); rintro e w20 ⟨v185, rfl, ho0, hb⟩; refine ⟨_, rfl, ?_⟩; have n0_ := Aside0.mk (Kd.S_elder' (by (with_reducible repeat (first | apply Kd.S_alloc | apply Kd.S_drewN | apply Kd.S_drew)); exact HO178.out) (Kd.S_base ho0) hb); have n1_ := Aside0.mk (Kd.S_elder' (by (with_reducible repeat (first | apply Kd.S_alloc | apply Kd.S_drewN | apply Kd.S_drew)); exact HO182.out) (Kd.S_base ho0) hb); have n2_ := Aside0.mk (Kd.S_lower (Kd.S_new' (Kd.S_new' ho0 (Kd.S_lt (by (with_reducible repeat (first | apply Kd.S_alloc | apply Kd.S_drewN | apply Kd.S_drew)); exact HO178.out))) (Kd.S_lt (by (with_reducible repeat (first | apply Kd.S_alloc | apply Kd.S_drewN | apply Kd.S_drew)); exact HO182.out))) (below_size (by repeat (first | (with_reducible first | exact HB.out | apply below_alloc | apply pw_below_drewN | apply below_drew1) | exact HB.out)))); have n3_ := Aside0.mk (below_step (by repeat (first | (with_reducible first | exact HB.out | apply below_alloc | apply pw_below_drewN | apply below_drew1) | exact HB.out)) hb); clear HO178; clear HO182; clear HB; have HO178 := n0_; have HO182 := n1_; have HO186 := n2_; have HB := n3_; clear n0_ n1_ n2_ n3_; (try clear hb); (try clear hb2); (try clear hk); (try clear hi); (try clear ho0); obtain ⟨Ao21, co21, eo21⟩ := Kd.S_slice HO186.out; subst eo21) | ((with_reducible refine gate_callee (f := 10) rfl ?_); refine goesL_ (some 25) rfl rfl Try.func10 (by kernel_rfl) rfl #[.slice Ao18 t180.length co18, .slice Ao21 t184.length co21] rfl (by (try simp only [List.map_toArray, List.map_cons, List.map_nil]); first | done | rfl | (simp only [List.length_drop, List.length_take]; rfl)) ?_; (with_reducible refine (laws_eqStepS.calls k _ _ t180 _ _ t184 true _ ?side1 ?side2 ?side3 ?side4 A11.out).mono ?_); (case side1 => repeat (first | exact (Kd.S_reads' HO182.out).2.2 | (with_reducible refine Kd.C_alloc ?_ _) | (with_reducible refine Kd.C_drewN ?_ _) | (with_reducible refine Kd.C_drew ?_))); (case side2 => exact (Kd.S_reads' HO182.out).2.1); (case side3 => repeat (first | exact (Kd.S_reads' HO186.out).2.2 | (with_reducible refine Kd.C_alloc ?_ _) | (with_reducible refine Kd.C_drewN ?_ _) | (with_reducible refine Kd.C_drew ?_))); (case side4 => exact (Kd.S_reads' HO186.out).2.1); rintro e w22 ⟨rfl, hb⟩; refine ⟨_, rfl, ?_⟩; have n0_ := Aside0.mk (Kd.S_below (by (with_reducible repeat (first | apply Kd.S_alloc | apply Kd.S_drewN | apply Kd.S_drew)); exact HO178.out) hb); have n1_ := Aside0.mk (Kd.S_below (by (with_reducible repeat (first | apply Kd.S_alloc | apply Kd.S_drewN | apply Kd.S_drew)); exact HO182.out) hb); have n2_ := Aside0.mk (Kd.S_below (by (with_reducible repeat (first | apply Kd.S_alloc | apply Kd.S_drewN | apply Kd.S_drew)); exact HO186.out) hb); have n3_ := Aside0.mk (below_step (by repeat (first | (with_reducible first | exact HB.out | apply below_alloc | apply pw_below_drewN | apply below_drew1) | exact HB.out)) hb); clear HO178; clear HO182; clear HO186; clear HB; have HO178 := n0_; have HO182 := n1_; have HO186 := n2_; have HB := n3_; clear n0_ n1_ n2_ n3_; (try clear hb); (try clear hb2); (try clear hk); (try clear hi)))
        go_ret
        exact ⟨by first | rfl | (simp [errW_none, errW_some] <;> rfl) | (simp [*, errW_none, errW_some] <;> rfl), by repeat (first | (with_reducible first | exact HB.out | apply below_alloc | apply pw_below_drewN | apply below_drew1) | exact HB.out)⟩
      · replace c12 := Bool.eq_false_iff.mpr c12
        subst c12
        have H1 : (some false) = some r := by rw [if_neg (show ¬ (false = true) by decide)] at H; exact H
        clear H
        have H := H1
        clear H1
        obtain rfl := Option.some.inj H
        go_enter Try.func4, Try.ntmps4
        go_wp2_with (first | ((with_reducible refine gate_callee (f := 6) rfl ?_); refine goesL_ (some 9) rfl rfl Try.func6 (by kernel_rfl) rfl #[.slice A0 l0.length c0, .int .i64 1048576] rfl (by (try simp only [List.map_toArray, List.map_cons, List.map_nil]); first | done | rfl | (simp only [List.length_drop, List.length_take]; rfl)) ?_; (with_reducible refine (laws_szStepS.calls k _ _ l0 1048576 t175 _ ?side1 ?side2 A2.out).mono ?_); (case side1 => repeat (first | exact HR0.out | (with_reducible refine Kd.C_alloc ?_ _) | (with_reducible refine Kd.C_drewN ?_ _) | (with_reducible refine Kd.C_drew ?_))); (case side2 => exact HC0.out); rintro e w23 ⟨rfl, hb⟩; refine ⟨_, rfl, ?_⟩; have n0_ := Aside0.mk (below_step (by repeat (first | (with_reducible first | exact HB.out | apply below_alloc | apply pw_below_drewN | apply below_drew1) | exact HB.out)) hb); clear HB; have HB := n0_; clear n0_; (try clear hb); (try clear hb2); (try clear hk); (try clear hi)) | ((with_reducible refine gate_callee (f := 8) rfl ?_); refine goesL_ (some 13) rfl rfl Try.func8 (by kernel_rfl) rfl #[.slice A0 l0.length c0] rfl (by (try simp only [List.map_toArray, List.map_cons, List.map_nil]); first | done | rfl | (simp only [List.length_drop, List.length_take]; rfl)) ?_; (with_reducible refine (laws_toStepS.calls k _ _ l0 t176 _ ?side1 ?side2 A5.out).mono ?_); (case side1 => repeat (first | exact (Kd.C_below HR0.out HB.out) | (with_reducible refine Kd.C_alloc ?_ _) | (with_reducible refine Kd.C_drewN ?_ _) | (with_reducible refine Kd.C_drew ?_))); (case side2 => exact HC0.out); rintro e w24 ⟨v177, rfl, ho0, hb⟩; refine ⟨_, rfl, ?_⟩; have n0_ := Aside0.mk (Kd.S_lower ho0 (below_size (by repeat (first | (with_reducible first | exact HB.out | apply below_alloc | apply pw_below_drewN | apply below_drew1) | exact HB.out)))); have n1_ := Aside0.mk (below_step (by repeat (first | (with_reducible first | exact HB.out | apply below_alloc | apply pw_below_drewN | apply below_drew1) | exact HB.out)) hb); clear HB; have HO178 := n0_; have HB := n1_; clear n0_ n1_; (try clear hb); (try clear hb2); (try clear hk); (try clear hi); (try clear ho0); obtain ⟨Ao25, co25, eo25⟩ := Kd.S_slice HO178.out; subst eo25) | ((with_reducible refine gate_callee (f := 11) rfl ?_); refine goesL_ (some 14) rfl rfl Try.func11 (by kernel_rfl) rfl #[.slice Ao25 t176.length co25] rfl (by (try simp only [List.map_toArray, List.map_cons, List.map_nil]); first | done | rfl | (simp only [List.length_drop, List.length_take]; rfl)) ?_; (with_reducible refine (spec_LastRedo.calls k _ _ t176 t179 _ ?side1 ?side2 A6.out).mono ?_); (case side1 => repeat (first | exact (Kd.S_reads' HO178.out).2.2 | (with_reducible refine Kd.C_alloc ?_ _) | (with_reducible refine Kd.C_drewN ?_ _) | (with_reducible refine Kd.C_drew ?_))); (case side2 => exact (Kd.S_reads' HO178.out).2.1); rintro e w26 ⟨rfl, hb⟩; refine ⟨_, rfl, ?_⟩; have n0_ := Aside0.mk (Kd.S_below (by (with_reducible repeat (first | apply Kd.S_alloc | apply Kd.S_drewN | apply Kd.S_drew)); exact HO178.out) hb); have n1_ := Aside0.mk (below_step (by repeat (first | (with_reducible first | exact HB.out | apply below_alloc | apply pw_below_drewN | apply below_drew1) | exact HB.out)) hb); clear HO178; clear HB; have HO178 := n0_; have HB := n1_; clear n0_ n1_; (try clear hb); (try clear hb2); (try clear hk); (try clear hi)) | ((with_reducible refine gate_callee (f := 8) rfl ?_); refine goesL_ (some 16) rfl rfl Try.func8 (by kernel_rfl) rfl #[.slice A0 l0.length c0] rfl (by (try simp only [List.map_toArray, List.map_cons, List.map_nil]); first | done | rfl | (simp only [List.length_drop, List.length_take]; rfl)) ?_; (with_reducible refine (laws_toStepS.calls k _ _ l0 t180 _ ?side1 ?side2 A7.out).mono ?_); (case side1 => repeat (first | exact (Kd.C_below HR0.out HB.out) | (with_reducible refine Kd.C_alloc ?_ _) | (with_reducible refine Kd.C_drewN ?_ _) | (with_reducible refine Kd.C_drew ?_))); (case side2 => exact HC0.out); rintro e w27 ⟨v181, rfl, ho0, hb⟩; refine ⟨_, rfl, ?_⟩; have n0_ := Aside0.mk (Kd.S_elder' (by (with_reducible repeat (first | apply Kd.S_alloc | apply Kd.S_drewN | apply Kd.S_drew)); exact HO178.out) (Kd.S_base ho0) hb); have n1_ := Aside0.mk (Kd.S_lower (Kd.S_new' ho0 (Kd.S_lt (by (with_reducible repeat (first | apply Kd.S_alloc | apply Kd.S_drewN | apply Kd.S_drew)); exact HO178.out))) (below_size (by repeat (first | (with_reducible first | exact HB.out | apply below_alloc | apply pw_below_drewN | apply below_drew1) | exact HB.out)))); have n2_ := Aside0.mk (below_step (by repeat (first | (with_reducible first | exact HB.out | apply below_alloc | apply pw_below_drewN | apply below_drew1) | exact HB.out)) hb); clear HO178; clear HB; have HO178 := n0_; have HO182 := n1_; have HB := n2_; clear n0_ n1_ n2_; (try clear hb); (try clear hb2); (try clear hk); (try clear hi); (try clear ho0); obtain ⟨Ao28, co28, eo28⟩ := Kd.S_slice HO182.out; subst eo28) | ((with_reducible refine gate_callee (f := 12) rfl ?_); refine goesL_ (some 18) rfl rfl Try.func12 (by kernel_rfl) rfl #[.slice Ao28 t180.length co28] rfl (by (try simp only [List.map_toArray, List.map_cons, List.map_nil]); first | done | rfl | (simp only [List.length_drop, List.length_take]; rfl)) ?_; (with_reducible refine (impl_LastRedo.calls _ _ t180 t183 _ ?side1 ?side2 A8.out).mono ?_); (case side1 => repeat (first | exact (Kd.S_reads' HO182.out).2.2 | (with_reducible refine Kd.C_alloc ?_ _) | (with_reducible refine Kd.C_drewN ?_ _) | (with_reducible refine Kd.C_drew ?_))); (case side2 => exact (Kd.S_reads' HO182.out).2.1); rintro e w29 ⟨rfl, hb⟩; refine ⟨_, rfl, ?_⟩; have n0_ := Aside0.mk (Kd.S_below (by (with_reducible repeat (first | apply Kd.S_alloc | apply Kd.S_drewN | apply Kd.S_drew)); exact HO178.out) hb); have n1_ := Aside0.mk (Kd.S_below (by (with_reducible repeat (first | apply Kd.S_alloc | apply Kd.S_drewN | apply Kd.S_drew)); exact HO182.out) hb); have n2_ := Aside0.mk (below_step (by repeat (first | (with_reducible first | exact HB.out | apply below_alloc | apply pw_below_drewN | apply below_drew1) | exact HB.out)) hb); clear HO178; clear HO182; clear HB; have HO178 := n0_; have HO182 := n1_; have HB := n2_; clear n0_ n1_ n2_; (try clear hb); (try clear hb2); (try clear hk); (try clear hi)) | ((with_reducible refine gate_callee (f := 8) rfl ?_); refine goesL_ (some 24) rfl rfl Try.func8 (by kernel_rfl) rfl #[.slice A0 l0.length c0] rfl (by (try simp only [List.map_toArray, List.map_cons, List.map_nil]); first | done | rfl | (simp only [List.length_drop, List.length_take]; rfl)) ?_; (with_reducible refine (laws_toStepS.calls k _ _ l0 t184 _ ?side1 ?side2 A10.out).mono ?_); (case side1 => repeat (first | exact (Kd.C_below HR0.out HB.out) | (with_reducible refine Kd.C_alloc ?_ _) | (with_reducible refine Kd.C_drewN ?_ _) | (with_reducible refine Kd.C_drew ?_))); (case side2 => exact HC0.out); rintro e w30 ⟨v185, rfl, ho0, hb⟩; refine ⟨_, rfl, ?_⟩; have n0_ := Aside0.mk (Kd.S_elder' (by (with_reducible repeat (first | apply Kd.S_alloc | apply Kd.S_drewN | apply Kd.S_drew)); exact HO178.out) (Kd.S_base ho0) hb); have n1_ := Aside0.mk (Kd.S_elder' (by (with_reducible repeat (first | apply Kd.S_alloc | apply Kd.S_drewN | apply Kd.S_drew)); exact HO182.out) (Kd.S_base ho0) hb); have n2_ := Aside0.mk (Kd.S_lower (Kd.S_new' (Kd.S_new' ho0 (Kd.S_lt (by (with_reducible repeat (first | apply Kd.S_alloc | apply Kd.S_drewN | apply Kd.S_drew)); exact HO178.out))) (Kd.S_lt (by (with_reducible repeat (first | apply Kd.S_alloc | apply Kd.S_drewN | apply Kd.S_drew)); exact HO182.out))) (below_size (by repeat (first | (with_reducible first | exact HB.out | apply below_alloc | apply pw_below_drewN | apply below_drew1) | exact HB.out)))); have n3_ := Aside0.mk (below_step (by repeat (first | (with_reducible first | exact HB.out | apply below_alloc | apply pw_below_drewN | apply below_drew1) | exact HB.out)) hb); clear HO178; clear HO182; clear HB; have HO178 := n0_; have HO182 := n1_; have HO186 := n2_; have HB := n3_; clear n0_ n1_ n2_ n3_; (try clear hb); (try clear hb2); (try clear hk); (try clear hi); (try clear ho0); obtain ⟨Ao31, co31, eo31⟩ := Kd.S_slice HO186.out; subst eo31) | ((with_reducible refine gate_callee (f := 10) rfl ?_); refine goesL_ (some 25) rfl rfl Try.func10 (by kernel_rfl) rfl #[.slice Ao28 t180.length co28, .slice Ao31 t184.length co31] rfl (by (try simp only [List.map_toArray, List.map_cons, List.map_nil]); first | done | rfl | (simp only [List.length_drop, List.length_take]; rfl)) ?_; (with_reducible refine (laws_eqStepS.calls k _ _ t180 _ _ t184 false _ ?side1 ?side2 ?side3 ?side4 A11.out).mono ?_); (case side1 => repeat (first | exact (Kd.S_reads' HO182.out).2.2 | (with_reducible refine Kd.C_alloc ?_ _) | (with_reducible refine Kd.C_drewN ?_ _) | (with_reducible refine Kd.C_drew ?_))); (case side2 => exact (Kd.S_reads' HO182.out).2.1); (case side3 => repeat (first | exact (Kd.S_reads' HO186.out).2.2 | (with_reducible refine Kd.C_alloc ?_ _) | (with_reducible refine Kd.C_drewN ?_ _) | (with_reducible refine Kd.C_drew ?_))); (case side4 => exact (Kd.S_reads' HO186.out).2.1); rintro e w32 ⟨rfl, hb⟩; refine ⟨_, rfl, ?_⟩; have n0_ := Aside0.mk (Kd.S_below (by (with_reducible repeat (first | apply Kd.S_alloc | apply Kd.S_drewN | apply Kd.S_drew)); exact HO178.out) hb); have n1_ := Aside0.mk (Kd.S_below (by (with_reducible repeat (first | apply Kd.S_alloc | apply Kd.S_drewN | apply Kd.S_drew)); exact HO182.out) hb); have n2_ := Aside0.mk (Kd.S_below (by (with_reducible repeat (first | apply Kd.S_alloc | apply Kd.S_drewN | apply Kd.S_drew)); exact HO186.out) hb); have n3_ := Aside0.mk (below_step (by repeat (first | (with_reducible first | exact HB.out | apply below_alloc | apply pw_below_drewN | apply below_drew1) | exact HB.out)) hb); clear HO178; clear HO182; clear HO186; clear HB; have HO178 := n0_; have HO182 := n1_; have HO186 := n2_; have HB := n3_; clear n0_ n1_ n2_ n3_; (try clear hb); (try clear hb2); (try clear hk); (try clear hi)))
        go_ret
        exact ⟨by first | rfl | (simp [errW_none, errW_some] <;> rfl) | (simp [*, errW_none, errW_some] <;> rfl), by repeat (first | (with_reducible first | exact HB.out | apply below_alloc | apply pw_below_drewN | apply below_drew1) | exact HB.out)⟩
    · rw [if_neg c9] at H
      have c9b0 : (t183 == t179) = false := beq_eq_false_iff_ne.mpr c9
      have c9b1 : (t183 != t179) = true := bne_iff_ne.mpr c9
      obtain rfl := Option.some.inj H
      go_enter Try.func4, Try.ntmps4
      go_wp2_with (first | ((with_reducible refine gate_callee (f := 6) rfl ?_); refine goesL_ (some 9) rfl rfl Try.func6 (by kernel_rfl) rfl #[.slice A0 l0.length c0, .int .i64 1048576] rfl (by (try simp only [List.map_toArray, List.map_cons, List.map_nil]); first | done | rfl | (simp only [List.length_drop, List.length_take]; rfl)) ?_; (with_reducible refine (laws_szStepS.calls k _ _ l0 1048576 t175 _ ?side1 ?side2 A2.out).mono ?_); (case side1 => repeat (first | exact HR0.out | (with_reducible refine Kd.C_alloc ?_ _) | (with_reducible refine Kd.C_drewN ?_ _) | (with_reducible refine Kd.C_drew ?_))); (case side2 => exact HC0.out); rintro e w33 ⟨rfl, hb⟩; refine ⟨_, rfl, ?_⟩; have n0_ := Aside0.mk (below_step (by repeat (first | (with_reducible first | exact HB.out | apply below_alloc | apply pw_below_drewN | apply below_drew1) | exact HB.out)) hb); clear HB; have HB := n0_; clear n0_; (try clear hb); (try clear hb2); (try clear hk); (try clear hi)) | ((with_reducible refine gate_callee (f := 8) rfl ?_); refine goesL_ (some 13) rfl rfl Try.func8 (by kernel_rfl) rfl #[.slice A0 l0.length c0] rfl (by (try simp only [List.map_toArray, List.map_cons, List.map_nil]); first | done | rfl | (simp only [List.length_drop, List.length_take]; rfl)) ?_; (with_reducible refine (laws_toStepS.calls k _ _ l0 t176 _ ?side1 ?side2 A5.out).mono ?_); (case side1 => repeat (first | exact (Kd.C_below HR0.out HB.out) | (with_reducible refine Kd.C_alloc ?_ _) | (with_reducible refine Kd.C_drewN ?_ _) | (with_reducible refine Kd.C_drew ?_))); (case side2 => exact HC0.out); rintro e w34 ⟨v177, rfl, ho0, hb⟩; refine ⟨_, rfl, ?_⟩; have n0_ := Aside0.mk (Kd.S_lower ho0 (below_size (by repeat (first | (with_reducible first | exact HB.out | apply below_alloc | apply pw_below_drewN | apply below_drew1) | exact HB.out)))); have n1_ := Aside0.mk (below_step (by repeat (first | (with_reducible first | exact HB.out | apply below_alloc | apply pw_below_drewN | apply below_drew1) | exact HB.out)) hb); clear HB; have HO178 := n0_; have HB := n1_; clear n0_ n1_; (try clear hb); (try clear hb2); (try clear hk); (try clear hi); (try clear ho0); obtain ⟨Ao35, co35, eo35⟩ := Kd.S_slice HO178.out; subst eo35) | ((with_reducible refine gate_callee (f := 11) rfl ?_); refine goesL_ (some 14) rfl rfl Try.func11 (by kernel_rfl) rfl #[.slice Ao35 t176.length co35] rfl (by (try simp only [List.map_toArray, List.map_cons, List.map_nil]); first | done | rfl | (simp only [List.length_drop, List.length_take]; rfl)) ?_; (with_reducible refine (spec_LastRedo.calls k _ _ t176 t179 _ ?side1 ?side2 A6.out).mono ?_); (case side1 => repeat (first | exact (Kd.S_reads' HO178.out).2.2 | (with_reducible refine Kd.C_alloc ?_ _) | (with_reducible refine Kd.C_drewN ?_ _) | (with_reducible refine Kd.C_drew ?_))); (case side2 => exact (Kd.S_reads' HO178.out).2.1); rintro e w36 ⟨rfl, hb⟩; refine ⟨_, rfl, ?_⟩; have n0_ := Aside0.mk (Kd.S_below (by (with_reducible repeat (first | apply Kd.S_alloc | apply Kd.S_drewN | apply Kd.S_drew)); exact HO178.out) hb); have n1_ := Aside0.mk (below_step (by repeat (first | (with_reducible first | exact HB.out | apply below_alloc | apply pw_below_drewN | apply below_drew1) | exact HB.out)) hb); clear HO178; clear HB; have HO178 := n0_; have HB := n1_; clear n0_ n1_; (try clear hb); (try clear hb2); (try clear hk); (try clear hi)) | ((with_reducible refine gate_callee (f := 8) rfl ?_); refine goesL_ (some 16) rfl rfl Try.func8 (by kernel_rfl) rfl #[.slice A0 l0.length c0] rfl (by (try simp only [List.map_toArray, List.map_cons, List.map_nil]); first | done | rfl | (simp only [List.length_drop, List.length_take]; rfl)) ?_; (with_reducible refine (laws_toStepS.calls k _ _ l0 t180 _ ?side1 ?side2 A7.out).mono ?_); (case side1 => repeat (first | exact (Kd.C_below HR0.out HB.out) | (with_reducible refine Kd.C_alloc ?_ _) | (with_reducible refine Kd.C_drewN ?_ _) | (with_reducible refine Kd.C_drew ?_))); (case side2 => exact HC0.out); rintro e w37 ⟨v181, rfl, ho0, hb⟩; refine ⟨_, rfl, ?_⟩; have n0_ := Aside0.mk (Kd.S_elder' (by (with_reducible repeat (first | apply Kd.S_alloc | apply Kd.S_drewN | apply Kd.S_drew)); exact HO178.out) (Kd.S_base ho0) hb); have n1_ := Aside0.mk (Kd.S_lower (Kd.S_new' ho0 (Kd.S_lt (by (with_reducible repeat (first | apply Kd.S_alloc | apply Kd.S_drewN | apply Kd.S_drew)); exact HO178.out))) (below_size (by repeat (first | (with_reducible first | exact HB.out | apply below_alloc | apply pw_below_drewN | apply below_drew1) | exact HB.out)))); have n2_ := Aside0.mk (below_step (by repeat (first | (with_reducible first | exact HB.out | apply below_alloc | apply pw_below_drewN | apply below_drew1) | exact HB.out)) hb); clear HO178; clear HB; have HO178 := n0_; have HO182 := n1_; have HB := n2_; clear n0_ n1_ n2_; (try clear hb); (try clear hb2); (try clear hk); (try clear hi); (try clear ho0); obtain ⟨Ao38, co38, eo38⟩ := Kd.S_slice HO182.out; subst eo38) | ((with_reducible refine gate_callee (f := 12) rfl ?_); refine goesL_ (some 18) rfl rfl Try.func12 (by kernel_rfl) rfl #[.slice Ao38 t180.length co38] rfl (by (try simp only [List.map_toArray, List.map_cons, List.map_nil]); first | done | rfl | (simp only [List.length_drop, List.length_take]; rfl)) ?_; (with_reducible refine (impl_LastRedo.calls _ _ t180 t183 _ ?side1 ?side2 A8.out).mono ?_); (case side1 => repeat (first | exact (Kd.S_reads' HO182.out).2.2 | (with_reducible refine Kd.C_alloc ?_ _) | (with_reducible refine Kd.C_drewN ?_ _) | (with_reducible refine Kd.C_drew ?_))); (case side2 => exact (Kd.S_reads' HO182.out).2.1); rintro e w39 ⟨rfl, hb⟩; refine ⟨_, rfl, ?_⟩; have n0_ := Aside0.mk (Kd.S_below (by (with_reducible repeat (first | apply Kd.S_alloc | apply Kd.S_drewN | apply Kd.S_drew)); exact HO178.out) hb); have n1_ := Aside0.mk (Kd.S_below (by (with_reducible repeat (first | apply Kd.S_alloc | apply Kd.S_drewN | apply Kd.S_drew)); exact HO182.out) hb); have n2_ := Aside0.mk (below_step (by repeat (first | (with_reducible first | exact HB.out | apply below_alloc | apply pw_below_drewN | apply below_drew1) | exact HB.out)) hb); clear HO178; clear HO182; clear HB; have HO178 := n0_; have HO182 := n1_; have HB := n2_; clear n0_ n1_ n2_; (try clear hb); (try clear hb2); (try clear hk); (try clear hi)))
      go_ret
      exact ⟨by first | rfl | (simp [errW_none, errW_some] <;> rfl) | (simp [*, errW_none, errW_some] <;> rfl), by repeat (first | (with_reducible first | exact HB.out | apply below_alloc | apply pw_below_drewN | apply below_drew1) | exact HB.out)⟩

end Go.Proofs.Ytffamggcjijobaa.PFnExactLastRedo
