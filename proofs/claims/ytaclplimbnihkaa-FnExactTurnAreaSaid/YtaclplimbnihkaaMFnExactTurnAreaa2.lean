/- Functions of the program as Lean functions, and proofs that the Go code comes to their answers: for the law FnExactTurnArea; made out of the print by a program of mine (compact.py). No conditions but each theorem's own. -/
import Derived.Test.YtaclplimbnihkaaMFnExactTurnAreaa0
import Derived.Test.YtaclplimbnihkaaMFnExactTurnAreaa1
namespace Go.Proofs.Ytaclplimbnihkaa.PFnExactTurnArea
open Go.RowKit Go.Proofs.YtaclplimbnihkaaW.PrintWords Go.Proofs.YtaclplimbnihkaaW.PrintLast Go.Proofs.YtaclplimbnihkaaW.PrintMore
attribute [local go_sem] max2_int min2_int max_two min_two max_three min_three max_four min_four   -- for this text's walks alone
set_option linter.unusedVariables false
set_option linter.unusedSimpArgs false

theorem put8 {w : World} {p : Nat} {t : TypeId} {c0 c1 c2 c3 c4 c5 c6 c7 u0 u1 u2 u3 u4 u5 u6 u7 : Value} (h : w.heap[p]? = some (.cells #[c0, c1, c2, c3, c4, c5, c6, c7] t (0, 0))) :
    (((((((((w.setCell ⟨p, 0, none⟩ u0).setCell ⟨p, 1, none⟩ u1).setCell ⟨p, 2, none⟩ u2).setCell ⟨p, 3, none⟩ u3).setCell ⟨p, 4, none⟩ u4).setCell ⟨p, 5, none⟩ u5).setCell ⟨p, 6, none⟩ u6).setCell ⟨p, 7, none⟩ u7)).heap[p]? = some (.cells #[u0, u1, u2, u3, u4, u5, u6, u7] t (0, 0)) := by
  have h1 := blk_put h 0 u0 (cs' := #[u0, c1, c2, c3, c4, c5, c6, c7]) rfl
  have h2 := blk_put h1 1 u1 (cs' := #[u0, u1, c2, c3, c4, c5, c6, c7]) rfl
  have h3 := blk_put h2 2 u2 (cs' := #[u0, u1, u2, c3, c4, c5, c6, c7]) rfl
  have h4 := blk_put h3 3 u3 (cs' := #[u0, u1, u2, u3, c4, c5, c6, c7]) rfl
  have h5 := blk_put h4 4 u4 (cs' := #[u0, u1, u2, u3, u4, c5, c6, c7]) rfl
  have h6 := blk_put h5 5 u5 (cs' := #[u0, u1, u2, u3, u4, u5, c6, c7]) rfl
  have h7 := blk_put h6 6 u6 (cs' := #[u0, u1, u2, u3, u4, u5, u6, c7]) rfl
  have h8 := blk_put h7 7 u7 (cs' := #[u0, u1, u2, u3, u4, u5, u6, u7]) rfl
  exact h8
theorem far8 {w : World} {g p : Nat} {t : TypeId} {cs : Array Value} {u0 u1 u2 u3 u4 u5 u6 u7 : Value} (h : w.heap[g]? = some (.cells cs t (0, 0))) (hne : g ≠ p) :
    (((((((((w.setCell ⟨p, 0, none⟩ u0).setCell ⟨p, 1, none⟩ u1).setCell ⟨p, 2, none⟩ u2).setCell ⟨p, 3, none⟩ u3).setCell ⟨p, 4, none⟩ u4).setCell ⟨p, 5, none⟩ u5).setCell ⟨p, 6, none⟩ u6).setCell ⟨p, 7, none⟩ u7)).heap[g]? = some (.cells cs t (0, 0)) := (blk_far (blk_far (blk_far (blk_far (blk_far (blk_far (blk_far (blk_far h (p := ⟨p, 0, none⟩) hne _) (p := ⟨p, 1, none⟩) hne _) (p := ⟨p, 2, none⟩) hne _) (p := ⟨p, 3, none⟩) hne _) (p := ⟨p, 4, none⟩) hne _) (p := ⟨p, 5, none⟩) hne _) (p := ⟨p, 6, none⟩) hne _) (p := ⟨p, 7, none⟩) hne _)
theorem below_put8 {B : Nat} {a w : World} {p : Nat} {u0 u1 u2 u3 u4 u5 u6 u7 : Value} (h : Below B a w) (hg : B ≤ p) : Below B a (((((((((w.setCell ⟨p, 0, none⟩ u0).setCell ⟨p, 1, none⟩ u1).setCell ⟨p, 2, none⟩ u2).setCell ⟨p, 3, none⟩ u3).setCell ⟨p, 4, none⟩ u4).setCell ⟨p, 5, none⟩ u5).setCell ⟨p, 6, none⟩ u6).setCell ⟨p, 7, none⟩ u7)) := ((((((((((((((((h).setCell (p := ⟨p, 0, none⟩) hg _)).setCell (p := ⟨p, 1, none⟩) hg _)).setCell (p := ⟨p, 2, none⟩) hg _)).setCell (p := ⟨p, 3, none⟩) hg _)).setCell (p := ⟨p, 4, none⟩) hg _)).setCell (p := ⟨p, 5, none⟩) hg _)).setCell (p := ⟨p, 6, none⟩) hg _)).setCell (p := ⟨p, 7, none⟩) hg _)
theorem cell_far8 {w : World} {b j p : Nat} {v : Value} {u0 u1 u2 u3 u4 u5 u6 u7 : Value} (h : w.cell? ⟨b, j, none⟩ = some v) (hne : b ≠ p) :
    (((((((((w.setCell ⟨p, 0, none⟩ u0).setCell ⟨p, 1, none⟩ u1).setCell ⟨p, 2, none⟩ u2).setCell ⟨p, 3, none⟩ u3).setCell ⟨p, 4, none⟩ u4).setCell ⟨p, 5, none⟩ u5).setCell ⟨p, 6, none⟩ u6).setCell ⟨p, 7, none⟩ u7)).cell? ⟨b, j, none⟩ = some v := ((cell_far (a := ⟨b, j, none⟩) (p := ⟨p, 7, none⟩) hne _).trans ((cell_far (a := ⟨b, j, none⟩) (p := ⟨p, 6, none⟩) hne _).trans ((cell_far (a := ⟨b, j, none⟩) (p := ⟨p, 5, none⟩) hne _).trans ((cell_far (a := ⟨b, j, none⟩) (p := ⟨p, 4, none⟩) hne _).trans ((cell_far (a := ⟨b, j, none⟩) (p := ⟨p, 3, none⟩) hne _).trans ((cell_far (a := ⟨b, j, none⟩) (p := ⟨p, 2, none⟩) hne _).trans ((cell_far (a := ⟨b, j, none⟩) (p := ⟨p, 1, none⟩) hne _).trans ((cell_far (a := ⟨b, j, none⟩) (p := ⟨p, 0, none⟩) hne _).trans h))))))))
theorem cell_drew {W : World} {b i : Nat} {v : Value} (h : W.cell? ⟨b, i, none⟩ = some v) : W.drew.cell? ⟨b, i, none⟩ = some v := h
theorem alloc_drew {W : World} {o : Obj} {b i : Nat} {v : Value} (h : W.drew.cell? ⟨b, i, none⟩ = some v) : (W.alloc o).drew.cell? ⟨b, i, none⟩ = some v :=
  pw_cell_below (below_alloc (Below.refl W.heap.size W) o) (show W.cell? ⟨b, i, none⟩ = some v from h)
theorem alloc_swap {W : World} {o o' : Obj} {b i : Nat} {v : Value} (h : (W.alloc o).cell? ⟨b, i, none⟩ = some v) (hlt : b < W.heap.size) : (W.alloc o').cell? ⟨b, i, none⟩ = some v :=
  ((below_alloc (Below.refl W.heap.size W) o').cell (p := ⟨b, i, none⟩) hlt).trans (((below_alloc (Below.refl W.heap.size W) o).cell (p := ⟨b, i, none⟩) hlt).symm.trans h)
set_option maxHeartbeats 8000000 in
set_option maxRecDepth 100000 in
theorem spec_TurnArea.calls (k : Nat) (a0_0 : Int) (a0_1 : Int) (a0_2 : Int) (a0_3 : Bool) (a1_0 : Int) (a1_1 : Int) (a1_2 : Bool) (a1_3 : Bool) (a1_4 : Int) (a1_5 : Int) (a1_6 : Bool) (a1_7 : Bool) (r1 : Int) (r2 : Int) (r3 : Bool) (r4 : Bool) (r5 : Int) (r6 : Int) (r7 : Bool) (r8 : Bool) (r9 : Bool) (w : World) (h : spec_TurnArea.f k a0_0 a0_1 a0_2 a0_3 a1_0 a1_1 a1_2 a1_3 a1_4 a1_5 a1_6 a1_7 = some (r1, r2, r3, r4, r5, r6, r7, r8, r9)) :
    Calls Try.prog 43 #[.agg #[.int .i64 a0_0, .int .i64 a0_1, .int .i64 a0_2, .bool a0_3], .agg #[.int .i64 a1_0, .int .i64 a1_1, .bool a1_2, .bool a1_3, .int .i64 a1_4, .int .i64 a1_5, .bool a1_6, .bool a1_7]] w fun e w' => e = .returned (.tuple #[.agg #[.int .i64 r1, .int .i64 r2, .bool r3, .bool r4, .int .i64 r5, .int .i64 r6, .bool r7, .bool r8], .bool r9]) ∧ Below w.heap.size w w' := by
  have hb0 : Below w.heap.size w (((w.alloc (.cells #[.int .i64 a0_0, .int .i64 a0_1, .int .i64 a0_2, .bool a0_3] 45)).alloc (.cells #[.int .i64 a1_0, .int .i64 a1_1, .bool a1_2, .bool a1_3, .int .i64 a1_4, .int .i64 a1_5, .bool a1_6, .bool a1_7] 28)).alloc (.cells #[.int .i64 0, .int .i64 0, .bool false, .bool false, .int .i64 0, .int .i64 0, .bool false, .bool false] 28)) := below_alloc (below_alloc (below_alloc (Below.refl _ _) _) _) _
  have hk0 := blk_alloc (blk_alloc (blk_new w (.cells #[.int .i64 a0_0, .int .i64 a0_1, .int .i64 a0_2, .bool a0_3] 45)) (.cells #[.int .i64 a1_0, .int .i64 a1_1, .bool a1_2, .bool a1_3, .int .i64 a1_4, .int .i64 a1_5, .bool a1_6, .bool a1_7] 28)) (.cells #[.int .i64 0, .int .i64 0, .bool false, .bool false, .int .i64 0, .int .i64 0, .bool false, .bool false] 28)
  have hk1 := blk_alloc (blk_new (w.alloc (.cells #[.int .i64 a0_0, .int .i64 a0_1, .int .i64 a0_2, .bool a0_3] 45)) (.cells #[.int .i64 a1_0, .int .i64 a1_1, .bool a1_2, .bool a1_3, .int .i64 a1_4, .int .i64 a1_5, .bool a1_6, .bool a1_7] 28)) (.cells #[.int .i64 0, .int .i64 0, .bool false, .bool false, .int .i64 0, .int .i64 0, .bool false, .bool false] 28)
  have hk2 := blk_new ((w.alloc (.cells #[.int .i64 a0_0, .int .i64 a0_1, .int .i64 a0_2, .bool a0_3] 45)).alloc (.cells #[.int .i64 a1_0, .int .i64 a1_1, .bool a1_2, .bool a1_3, .int .i64 a1_4, .int .i64 a1_5, .bool a1_6, .bool a1_7] 28)) (.cells #[.int .i64 0, .int .i64 0, .bool false, .bool false, .int .i64 0, .int .i64 0, .bool false, .bool false] 28)
  simp only [World.size_alloc, Nat.add_assoc, Nat.reduceAdd] at hk1 hk2
  have HW := Lib.hid hb0; have HK0 := Lib.hid hk0; have HK1 := Lib.hid hk1; have HK2 := Lib.hid hk2; clear hb0 hk0 hk1 hk2
  unfold spec_TurnArea.f at h
  replace h := Option.bind_eq_some_iff.mp h
  obtain ⟨g, hg, h⟩ := h
  have HG := Lib.hid hg; clear hg
  cases g
  · cases k with
    | zero => simp [spec_TurnArea.j0] at h
    | succ k =>
      obtain ⟨rfl, rfl, rfl, rfl, rfl, rfl, rfl, rfl, rfl⟩ : 0 = r1 ∧ 0 = r2 ∧ false = r3 ∧ false = r4 ∧ 0 = r5 ∧ 0 = r6 ∧ false = r7 ∧ false = r8 ∧ false = r9 := by simpa [spec_TurnArea.j0] using h
      clear h
      go_enter Try.func43, Try.ntmps43
      go_wp2_with fail
      refine (spec_GoodTurn.calls _ _ _ _ _ _ HG.out).mono ?_; rintro e w1 ⟨rfl, hd⟩
      have HK0n := Lib.hid (blk_below HK0.out hd); clear HK0; have HK0 := HK0n; clear HK0n
      have HK1n := Lib.hid (blk_below HK1.out hd); clear HK1; have HK1 := HK1n; clear HK1n
      have HK2n := Lib.hid (blk_below HK2.out hd); clear HK2; have HK2 := HK2n; clear HK2n
      have HWn := Lib.hid (below_step HW.out hd); clear HW; have HW := HWn; clear HWn; clear hd
      have q0 := blk_cell HK2.out 0; have q1 := blk_cell HK2.out 1; have q2 := blk_cell HK2.out 2; have q3 := blk_cell HK2.out 3; have q4 := blk_cell HK2.out 4; have q5 := blk_cell HK2.out 5; have q6 := blk_cell HK2.out 6; have q7 := blk_cell HK2.out 7
      simp only [List.getElem?_toArray, List.getElem?_cons_zero, List.getElem?_cons_succ] at q0 q1 q2 q3 q4 q5 q6 q7
      have fq0 := blk_frozen HK2.out 0; have fq1 := blk_frozen HK2.out 1; have fq2 := blk_frozen HK2.out 2; have fq3 := blk_frozen HK2.out 3; have fq4 := blk_frozen HK2.out 4; have fq5 := blk_frozen HK2.out 5; have fq6 := blk_frozen HK2.out 6; have fq7 := blk_frozen HK2.out 7
      go_wp2_with fail
      (try simp only [Exit.inBlock, Exit.then]); refine bodyPost_ret (results_ct rfl _ _ (w.heap.size + 2) 28 _ (0, 0) _ rfl (put8 (c0 := .int .i64 0) (c1 := .int .i64 0) (c2 := .bool false) (c3 := .bool false) (c4 := .int .i64 0) (c5 := .int .i64 0) (c6 := .bool false) (c7 := .bool false) ?hx) Try.underlying28 rfl (by kernel_rfl)) rfl ?_
      case hx => exact (by (with_reducible repeat (first | exact HK2.out | refine blk_far ?_ (Nat.ne_of_lt (by assumption)) _)))
      exact ⟨rfl, (by (with_reducible repeat (first | exact HW.out | refine Below.setCell ?_ (by first | exact Nat.le_refl _ | exact Nat.le_add_right _ _ | exact Nat.le_trans (Nat.le_succ _) (Nat.le_succ _) | exact Nat.le_of_lt (by assumption)) _)))⟩
  rw [if_pos rfl] at h
  replace h := Option.bind_eq_some_iff.mp h
  obtain ⟨g2, hg2, h⟩ := h
  have HG2 := Lib.hid hg2; clear hg2
  cases k with
  | zero => cases g2 <;> simp [spec_TurnArea.j0] at h
  | succ k =>
    cases g2
    · obtain ⟨rfl, rfl, rfl, rfl, rfl, rfl, rfl, rfl, rfl⟩ : 0 = r1 ∧ 0 = r2 ∧ false = r3 ∧ false = r4 ∧ 0 = r5 ∧ 0 = r6 ∧ false = r7 ∧ false = r8 ∧ false = r9 := by simpa [spec_TurnArea.j0] using h
      clear h
      go_enter Try.func43, Try.ntmps43
      go_wp2_with fail
      refine (spec_GoodTurn.calls _ _ _ _ _ _ HG.out).mono ?_; rintro e w1 ⟨rfl, hd⟩
      have HK0n := Lib.hid (blk_below HK0.out hd); clear HK0; have HK0 := HK0n; clear HK0n
      have HK1n := Lib.hid (blk_below HK1.out hd); clear HK1; have HK1 := HK1n; clear HK1n
      have HK2n := Lib.hid (blk_below HK2.out hd); clear HK2; have HK2 := HK2n; clear HK2n
      have HWn := Lib.hid (below_step HW.out hd); clear HW; have HW := HWn; clear HWn; clear hd
      have y0 := blk_cell HK1.out 0; have y1 := blk_cell HK1.out 1; have y2 := blk_cell HK1.out 2; have y3 := blk_cell HK1.out 3; have y4 := blk_cell HK1.out 4; have y5 := blk_cell HK1.out 5; have y6 := blk_cell HK1.out 6; have y7 := blk_cell HK1.out 7
      simp only [List.getElem?_toArray, List.getElem?_cons_zero, List.getElem?_cons_succ] at y0 y1 y2 y3 y4 y5 y6 y7
      go_wp2_with fail
      refine (spec_GoodArea.calls _ _ _ _ _ _ _ _ _ _ HG2.out).mono ?_; rintro e w2 ⟨rfl, hd⟩
      clear y0 y1 y2 y3 y4 y5 y6 y7
      have HK0n := Lib.hid (blk_below HK0.out hd); clear HK0; have HK0 := HK0n; clear HK0n
      have HK1n := Lib.hid (blk_below HK1.out hd); clear HK1; have HK1 := HK1n; clear HK1n
      have HK2n := Lib.hid (blk_below HK2.out hd); clear HK2; have HK2 := HK2n; clear HK2n
      have HWn := Lib.hid (below_step HW.out hd); clear HW; have HW := HWn; clear HWn; clear hd
      have q0 := blk_cell HK2.out 0; have q1 := blk_cell HK2.out 1; have q2 := blk_cell HK2.out 2; have q3 := blk_cell HK2.out 3; have q4 := blk_cell HK2.out 4; have q5 := blk_cell HK2.out 5; have q6 := blk_cell HK2.out 6; have q7 := blk_cell HK2.out 7
      simp only [List.getElem?_toArray, List.getElem?_cons_zero, List.getElem?_cons_succ] at q0 q1 q2 q3 q4 q5 q6 q7
      have fq0 := blk_frozen HK2.out 0; have fq1 := blk_frozen HK2.out 1; have fq2 := blk_frozen HK2.out 2; have fq3 := blk_frozen HK2.out 3; have fq4 := blk_frozen HK2.out 4; have fq5 := blk_frozen HK2.out 5; have fq6 := blk_frozen HK2.out 6; have fq7 := blk_frozen HK2.out 7
      go_wp2_with fail
      (try simp only [Exit.inBlock, Exit.then]); refine bodyPost_ret (results_ct rfl _ _ (w.heap.size + 2) 28 _ (0, 0) _ rfl (put8 (c0 := .int .i64 0) (c1 := .int .i64 0) (c2 := .bool false) (c3 := .bool false) (c4 := .int .i64 0) (c5 := .int .i64 0) (c6 := .bool false) (c7 := .bool false) ?hx) Try.underlying28 rfl (by kernel_rfl)) rfl ?_
      case hx => exact (by (with_reducible repeat (first | exact HK2.out | refine blk_far ?_ (Nat.ne_of_lt (by assumption)) _)))
      exact ⟨rfl, (by (with_reducible repeat (first | exact HW.out | refine Below.setCell ?_ (by first | exact Nat.le_refl _ | exact Nat.le_add_right _ _ | exact Nat.le_trans (Nat.le_succ _) (Nat.le_succ _) | exact Nat.le_of_lt (by assumption)) _)))⟩
    simp only [spec_TurnArea.j0, Bool.not_true, Bool.false_eq_true, if_false] at h
    by_cases hk : a0_0 = 1
    · have kb : (a0_0 == 1) = true := beq_iff_eq.mpr hk
      rw [if_pos hk] at h
      replace h := Option.bind_eq_some_iff.mp h
      obtain ⟨x0, h_, h⟩ := h
      have HX0 := Lib.hid h_; clear h_
      replace h := Option.bind_eq_some_iff.mp h
      obtain ⟨x1, h_, h⟩ := h
      have HX1 := Lib.hid h_; clear h_
      replace h := Option.bind_eq_some_iff.mp h
      obtain ⟨⟨e1, e2, e3⟩, h_, h⟩ := h
      have HE := Lib.hid h_; clear h_
      dsimp only at h
      have HH := Lib.hid h; clear h hk
      go_enter Try.func43, Try.ntmps43
      go_wp2_with fail
      refine (spec_GoodTurn.calls _ _ _ _ _ _ HG.out).mono ?_; rintro e w1 ⟨rfl, hd⟩
      have HK0n := Lib.hid (blk_below HK0.out hd); clear HK0; have HK0 := HK0n; clear HK0n
      have HK1n := Lib.hid (blk_below HK1.out hd); clear HK1; have HK1 := HK1n; clear HK1n
      have HK2n := Lib.hid (blk_below HK2.out hd); clear HK2; have HK2 := HK2n; clear HK2n
      have HWn := Lib.hid (below_step HW.out hd); clear HW; have HW := HWn; clear HWn; clear hd
      have y0 := blk_cell HK1.out 0; have y1 := blk_cell HK1.out 1; have y2 := blk_cell HK1.out 2; have y3 := blk_cell HK1.out 3; have y4 := blk_cell HK1.out 4; have y5 := blk_cell HK1.out 5; have y6 := blk_cell HK1.out 6; have y7 := blk_cell HK1.out 7
      simp only [List.getElem?_toArray, List.getElem?_cons_zero, List.getElem?_cons_succ] at y0 y1 y2 y3 y4 y5 y6 y7
      go_wp2_with fail
      refine (spec_GoodArea.calls _ _ _ _ _ _ _ _ _ _ HG2.out).mono ?_; rintro e w2 ⟨rfl, hd⟩
      clear y0 y1 y2 y3 y4 y5 y6 y7
      have HK0n := Lib.hid (blk_below HK0.out hd); clear HK0; have HK0 := HK0n; clear HK0n
      have HK1n := Lib.hid (blk_below HK1.out hd); clear HK1; have HK1 := HK1n; clear HK1n
      have HK2n := Lib.hid (blk_below HK2.out hd); clear HK2; have HK2 := HK2n; clear HK2n
      have HWn := Lib.hid (below_step HW.out hd); clear HW; have HW := HWn; clear HWn; clear hd
      have y0 := blk_cell HK1.out 0; have y1 := blk_cell HK1.out 1; have y2 := blk_cell HK1.out 2; have y3 := blk_cell HK1.out 3; have y4 := blk_cell HK1.out 4; have y5 := blk_cell HK1.out 5; have y6 := blk_cell HK1.out 6; have y7 := blk_cell HK1.out 7
      simp only [List.getElem?_toArray, List.getElem?_cons_zero, List.getElem?_cons_succ] at y0 y1 y2 y3 y4 y5 y6 y7
      have k0 := blk_cell HK0.out 0; have k1 := blk_cell HK0.out 1; have k2 := blk_cell HK0.out 2; have k3 := blk_cell HK0.out 3
      simp only [List.getElem?_toArray, List.getElem?_cons_zero, List.getElem?_cons_succ] at k0 k1 k2 k3
      have lt0_ := blk_lt HK0.out; have lt1_ := blk_lt HK1.out; have lt2_ := blk_lt HK2.out
      go_wp2_with fail
      clear y0 y1 y2 y3 y4 y5 y6 y7 k0 k1 k2 k3
      have HK0n := Lib.hid (blk_alloc HK0.out (.cells #[.int .i64 a1_0, .int .i64 a1_1, .bool a1_2, .bool a1_3, .int .i64 a1_4, .int .i64 a1_5, .bool a1_6, .bool a1_7] 28)); clear HK0; have HK0 := HK0n; clear HK0n
      have HK1n := Lib.hid (blk_alloc HK1.out (.cells #[.int .i64 a1_0, .int .i64 a1_1, .bool a1_2, .bool a1_3, .int .i64 a1_4, .int .i64 a1_5, .bool a1_6, .bool a1_7] 28)); clear HK1; have HK1 := HK1n; clear HK1n
      have HK2n := Lib.hid (blk_alloc HK2.out (.cells #[.int .i64 a1_0, .int .i64 a1_1, .bool a1_2, .bool a1_3, .int .i64 a1_4, .int .i64 a1_5, .bool a1_6, .bool a1_7] 28)); clear HK2; have HK2 := HK2n; clear HK2n
      have HK6 := Lib.hid (blk_new w2 (.cells #[.int .i64 a1_0, .int .i64 a1_1, .bool a1_2, .bool a1_3, .int .i64 a1_4, .int .i64 a1_5, .bool a1_6, .bool a1_7] 28)); have HWn := Lib.hid (below_alloc HW.out (.cells #[.int .i64 a1_0, .int .i64 a1_1, .bool a1_2, .bool a1_3, .int .i64 a1_4, .int .i64 a1_5, .bool a1_6, .bool a1_7] 28)); clear HW; have HW := HWn; clear HWn
      have y0_0 := blk_cell HK0.out 0; have y0_1 := blk_cell HK0.out 1; have y0_2 := blk_cell HK0.out 2; have y0_3 := blk_cell HK0.out 3; have y1_0 := blk_cell HK1.out 0; have y1_4 := blk_cell HK1.out 4
      simp only [List.getElem?_toArray, List.getElem?_cons_zero, List.getElem?_cons_succ] at y0_0 y0_1 y0_2 y0_3 y1_0 y1_4
      first | go_region_held3 (fun w' => w'.cell? ⟨w.heap.size, 0, none⟩ = some (.int .i64 a0_0) ∧ w'.cell? ⟨w.heap.size, 1, none⟩ = some (.int .i64 a0_1) ∧ w'.cell? ⟨w.heap.size, 2, none⟩ = some (.int .i64 a0_2) ∧ w'.cell? ⟨w.heap.size, 3, none⟩ = some (.bool a0_3) ∧ w'.cell? ⟨w.heap.size + 1, 0, none⟩ = some (.int .i64 a1_0) ∧ w'.cell? ⟨w.heap.size + 1, 4, none⟩ = some (.int .i64 a1_4))
          (first | (go_split_ands; (repeat' apply And.intro) <;> (first | with_reducible assumption | (with_reducible exact cell_drew (by assumption)))))
          (first | (go_at_call 73; (with_reducible refine (spec_l3Min.calls _ _ _ _ HX0.out).mono ?_); rintro e w' ⟨rfl, hd0⟩; have hb := hd0.below; clear hd0; (with_reducible first | (have HK0n := Lib.hid (blk_below HK0.out hb)) | (have HK0n := Lib.hid (blk_below (blk_drew HK0.out) hb))); (with_reducible first | (have HK1n := Lib.hid (blk_below HK1.out hb)) | (have HK1n := Lib.hid (blk_below (blk_drew HK1.out) hb))); (with_reducible first | (have HK2n := Lib.hid (blk_below HK2.out hb)) | (have HK2n := Lib.hid (blk_below (blk_drew HK2.out) hb))); (with_reducible first | (have HK6n := Lib.hid (blk_below HK6.out hb)) | (have HK6n := Lib.hid (blk_below (blk_drew HK6.out) hb))); (with_reducible first | (have HWn := Lib.hid (below_step HW.out hb)) | (have HWn := Lib.hid (below_step (below_drew1 HW.out) hb))); clear HK0; have HK0 := HK0n; clear HK0n; clear HK1; have HK1 := HK1n; clear HK1n; clear HK2; have HK2 := HK2n; clear HK2n; clear HK6; have HK6 := HK6n; clear HK6n; clear HW; have HW := HWn; clear HWn; clear y0_0 y0_1 y0_2 y0_3 y1_0 y1_4; have y0_0 := blk_cell HK0.out 0; have y0_1 := blk_cell HK0.out 1; have y0_2 := blk_cell HK0.out 2; have y0_3 := blk_cell HK0.out 3; have y1_0 := blk_cell HK1.out 0; have y1_4 := blk_cell HK1.out 4; simp only [List.getElem?_toArray, List.getElem?_cons_zero, List.getElem?_cons_succ] at y0_0 y0_1 y0_2 y0_3 y1_0 y1_4; clear hb) | (go_at_call 72; (with_reducible refine (spec_l3Max.calls _ _ _ _ HX1.out).mono ?_); rintro e w' ⟨rfl, hd0⟩; have hb := hd0.below; clear hd0; (with_reducible first | (have HK0n := Lib.hid (blk_below HK0.out hb)) | (have HK0n := Lib.hid (blk_below (blk_drew HK0.out) hb))); (with_reducible first | (have HK1n := Lib.hid (blk_below HK1.out hb)) | (have HK1n := Lib.hid (blk_below (blk_drew HK1.out) hb))); (with_reducible first | (have HK2n := Lib.hid (blk_below HK2.out hb)) | (have HK2n := Lib.hid (blk_below (blk_drew HK2.out) hb))); (with_reducible first | (have HK6n := Lib.hid (blk_below HK6.out hb)) | (have HK6n := Lib.hid (blk_below (blk_drew HK6.out) hb))); (with_reducible first | (have HWn := Lib.hid (below_step HW.out hb)) | (have HWn := Lib.hid (below_step (below_drew1 HW.out) hb))); clear HK0; have HK0 := HK0n; clear HK0n; clear HK1; have HK1 := HK1n; clear HK1n; clear HK2; have HK2 := HK2n; clear HK2n; clear HK6; have HK6 := HK6n; clear HK6n; clear HW; have HW := HWn; clear HWn; clear y0_0 y0_1 y0_2 y0_3 y1_0 y1_4; have y0_0 := blk_cell HK0.out 0; have y0_1 := blk_cell HK0.out 1; have y0_2 := blk_cell HK0.out 2; have y0_3 := blk_cell HK0.out 3; have y1_0 := blk_cell HK1.out 0; have y1_4 := blk_cell HK1.out 4; simp only [List.getElem?_toArray, List.getElem?_cons_zero, List.getElem?_cons_succ] at y0_0 y0_1 y0_2 y0_3 y1_0 y1_4; clear hb) | (go_at_call 95; (with_reducible refine (spec_l5Ends.calls _ _ _ _ _ _ _ _ _ _ _ HE.out).mono ?_); rintro e w' ⟨rfl, hb⟩; (with_reducible first | (have HK0n := Lib.hid (blk_below HK0.out hb)) | (have HK0n := Lib.hid (blk_below (blk_drew HK0.out) hb))); (with_reducible first | (have HK1n := Lib.hid (blk_below HK1.out hb)) | (have HK1n := Lib.hid (blk_below (blk_drew HK1.out) hb))); (with_reducible first | (have HK2n := Lib.hid (blk_below HK2.out hb)) | (have HK2n := Lib.hid (blk_below (blk_drew HK2.out) hb))); (with_reducible first | (have HK6n := Lib.hid (blk_below HK6.out hb)) | (have HK6n := Lib.hid (blk_below (blk_drew HK6.out) hb))); (with_reducible first | (have HWn := Lib.hid (below_step HW.out hb)) | (have HWn := Lib.hid (below_step (below_drew1 HW.out) hb))); clear HK0; have HK0 := HK0n; clear HK0n; clear HK1; have HK1 := HK1n; clear HK1n; clear HK2; have HK2 := HK2n; clear HK2n; clear HK6; have HK6 := HK6n; clear HK6n; clear HW; have HW := HWn; clear HWn; clear y0_0 y0_1 y0_2 y0_3 y1_0 y1_4; have y0_0 := blk_cell HK0.out 0; have y0_1 := blk_cell HK0.out 1; have y0_2 := blk_cell HK0.out 2; have y0_3 := blk_cell HK0.out 3; have y1_0 := blk_cell HK1.out 0; have y1_4 := blk_cell HK1.out 4; simp only [List.getElem?_toArray, List.getElem?_cons_zero, List.getElem?_cons_succ] at y0_0 y0_1 y0_2 y0_3 y1_0 y1_4; clear hb)) | fail
      clear y0_0 y0_1 y0_2 y0_3 y1_0 y1_4; go_split_ands
      have p0 := blk_cell HK6.out 0; have p1 := blk_cell HK6.out 1; have p2 := blk_cell HK6.out 2; have p3 := blk_cell HK6.out 3; have p4 := blk_cell HK6.out 4; have p5 := blk_cell HK6.out 5; have p6 := blk_cell HK6.out 6; have p7 := blk_cell HK6.out 7
      simp only [List.getElem?_toArray, List.getElem?_cons_zero, List.getElem?_cons_succ] at p0 p1 p2 p3 p4 p5 p6 p7
      have fp0 := blk_frozen HK6.out 0; have fp1 := blk_frozen HK6.out 1; have fp2 := blk_frozen HK6.out 2; have fp3 := blk_frozen HK6.out 3; have fp4 := blk_frozen HK6.out 4; have fp5 := blk_frozen HK6.out 5; have fp6 := blk_frozen HK6.out 6; have fp7 := blk_frozen HK6.out 7
      have q0 := blk_cell HK2.out 0; have q1 := blk_cell HK2.out 1; have q2 := blk_cell HK2.out 2; have q3 := blk_cell HK2.out 3; have q4 := blk_cell HK2.out 4; have q5 := blk_cell HK2.out 5; have q6 := blk_cell HK2.out 6; have q7 := blk_cell HK2.out 7
      simp only [List.getElem?_toArray, List.getElem?_cons_zero, List.getElem?_cons_succ] at q0 q1 q2 q3 q4 q5 q6 q7
      have fq0 := blk_frozen HK2.out 0; have fq1 := blk_frozen HK2.out 1; have fq2 := blk_frozen HK2.out 2; have fq3 := blk_frozen HK2.out 3; have fq4 := blk_frozen HK2.out 4; have fq5 := blk_frozen HK2.out 5; have fq6 := blk_frozen HK2.out 6; have fq7 := blk_frozen HK2.out 7
      have lt6_ := blk_lt HK6.out; have hh := HH.out
      have h1_ := blk_put HK6.out 0 (.int .i64 e1) (cs' := #[.int .i64 e1, .int .i64 a1_1, .bool a1_2, .bool a1_3, .int .i64 a1_4, .int .i64 a1_5, .bool a1_6, .bool a1_7]) rfl; have h2_ := blk_put h1_ 4 (.int .i64 e2) (cs' := #[.int .i64 e1, .int .i64 a1_1, .bool a1_2, .bool a1_3, .int .i64 e2, .int .i64 a1_5, .bool a1_6, .bool a1_7]) rfl; have h3_ := blk_put h2_ 0 (.int .i64 e2) (cs' := #[.int .i64 e2, .int .i64 a1_1, .bool a1_2, .bool a1_3, .int .i64 e2, .int .i64 a1_5, .bool a1_6, .bool a1_7]) rfl; have h4_ := blk_put h3_ 4 (.int .i64 e1) (cs' := #[.int .i64 e2, .int .i64 a1_1, .bool a1_2, .bool a1_3, .int .i64 e1, .int .i64 a1_5, .bool a1_6, .bool a1_7]) rfl
      have s0 := blk_cell h4_ 0; have s1 := blk_cell h4_ 1; have s2 := blk_cell h4_ 2; have s3 := blk_cell h4_ 3; have s4 := blk_cell h4_ 4; have s5 := blk_cell h4_ 5; have s6 := blk_cell h4_ 6; have s7 := blk_cell h4_ 7
      simp only [List.getElem?_toArray, List.getElem?_cons_zero, List.getElem?_cons_succ] at s0 s1 s2 s3 s4 s5 s6 s7
      clear h1_ h2_ h3_ h4_
      by_cases c1 : a1_0 > a1_4
      all_goals
        simp only [c1, if_true, if_false] at hh
        first
          | (have b1 : decide (a1_4 < a1_0) = true := decide_eq_true c1; clear c1)
          | (have b1 : decide (a1_4 < a1_0) = false := decide_eq_false c1; clear c1)
        cases e3
        all_goals
          simp only [Bool.false_eq_true, if_true, if_false, Option.some.injEq, Prod.mk.injEq] at hh
          obtain ⟨rfl, rfl, rfl, rfl, rfl, rfl, rfl, rfl, rfl⟩ := hh
          go_wp2_with fail
          (try simp only [Exit.inBlock, Exit.then]); refine bodyPost_ret (results_ct rfl _ _ (w.heap.size + 2) 28 _ (0, 0) _ rfl (put8 (c0 := .int .i64 0) (c1 := .int .i64 0) (c2 := .bool false) (c3 := .bool false) (c4 := .int .i64 0) (c5 := .int .i64 0) (c6 := .bool false) (c7 := .bool false) ?hx) Try.underlying28 rfl (by kernel_rfl)) rfl ?_
          case hx => exact (by (with_reducible repeat (first | exact HK2.out | refine blk_far ?_ (Nat.ne_of_lt (by assumption)) _)))
          exact ⟨rfl, (by (with_reducible repeat (first | exact HW.out | refine Below.setCell ?_ (by first | exact Nat.le_refl _ | exact Nat.le_add_right _ _ | exact Nat.le_trans (Nat.le_succ _) (Nat.le_succ _) | exact Nat.le_of_lt (by assumption)) _)))⟩
    · have kb : (a0_0 == 1) = false := beq_eq_false_iff_ne.mpr hk
      rw [if_neg hk] at h
      replace h := Option.bind_eq_some_iff.mp h
      obtain ⟨x0, h_, h⟩ := h
      have HX0 := Lib.hid h_; clear h_
      replace h := Option.bind_eq_some_iff.mp h
      obtain ⟨x1, h_, h⟩ := h
      have HX1 := Lib.hid h_; clear h_
      replace h := Option.bind_eq_some_iff.mp h
      obtain ⟨⟨e1, e2, e3⟩, h_, h⟩ := h
      have HE := Lib.hid h_; clear h_
      dsimp only at h
      have HH := Lib.hid h; clear h hk
      go_enter Try.func43, Try.ntmps43
      go_wp2_with fail
      refine (spec_GoodTurn.calls _ _ _ _ _ _ HG.out).mono ?_; rintro e w1 ⟨rfl, hd⟩
      have HK0n := Lib.hid (blk_below HK0.out hd); clear HK0; have HK0 := HK0n; clear HK0n
      have HK1n := Lib.hid (blk_below HK1.out hd); clear HK1; have HK1 := HK1n; clear HK1n
      have HK2n := Lib.hid (blk_below HK2.out hd); clear HK2; have HK2 := HK2n; clear HK2n
      have HWn := Lib.hid (below_step HW.out hd); clear HW; have HW := HWn; clear HWn; clear hd
      have y0 := blk_cell HK1.out 0; have y1 := blk_cell HK1.out 1; have y2 := blk_cell HK1.out 2; have y3 := blk_cell HK1.out 3; have y4 := blk_cell HK1.out 4; have y5 := blk_cell HK1.out 5; have y6 := blk_cell HK1.out 6; have y7 := blk_cell HK1.out 7
      simp only [List.getElem?_toArray, List.getElem?_cons_zero, List.getElem?_cons_succ] at y0 y1 y2 y3 y4 y5 y6 y7
      go_wp2_with fail
      refine (spec_GoodArea.calls _ _ _ _ _ _ _ _ _ _ HG2.out).mono ?_; rintro e w2 ⟨rfl, hd⟩
      clear y0 y1 y2 y3 y4 y5 y6 y7
      have HK0n := Lib.hid (blk_below HK0.out hd); clear HK0; have HK0 := HK0n; clear HK0n
      have HK1n := Lib.hid (blk_below HK1.out hd); clear HK1; have HK1 := HK1n; clear HK1n
      have HK2n := Lib.hid (blk_below HK2.out hd); clear HK2; have HK2 := HK2n; clear HK2n
      have HWn := Lib.hid (below_step HW.out hd); clear HW; have HW := HWn; clear HWn; clear hd
      have y0 := blk_cell HK1.out 0; have y1 := blk_cell HK1.out 1; have y2 := blk_cell HK1.out 2; have y3 := blk_cell HK1.out 3; have y4 := blk_cell HK1.out 4; have y5 := blk_cell HK1.out 5; have y6 := blk_cell HK1.out 6; have y7 := blk_cell HK1.out 7
      simp only [List.getElem?_toArray, List.getElem?_cons_zero, List.getElem?_cons_succ] at y0 y1 y2 y3 y4 y5 y6 y7
      have k0 := blk_cell HK0.out 0; have k1 := blk_cell HK0.out 1; have k2 := blk_cell HK0.out 2; have k3 := blk_cell HK0.out 3
      simp only [List.getElem?_toArray, List.getElem?_cons_zero, List.getElem?_cons_succ] at k0 k1 k2 k3
      have lt0_ := blk_lt HK0.out; have lt1_ := blk_lt HK1.out; have lt2_ := blk_lt HK2.out
      go_wp2_with fail
      clear y0 y1 y2 y3 y4 y5 y6 y7 k0 k1 k2 k3
      have HK0n := Lib.hid (blk_alloc HK0.out (.cells #[.int .i64 a1_0, .int .i64 a1_1, .bool a1_2, .bool a1_3, .int .i64 a1_4, .int .i64 a1_5, .bool a1_6, .bool a1_7] 28)); clear HK0; have HK0 := HK0n; clear HK0n
      have HK1n := Lib.hid (blk_alloc HK1.out (.cells #[.int .i64 a1_0, .int .i64 a1_1, .bool a1_2, .bool a1_3, .int .i64 a1_4, .int .i64 a1_5, .bool a1_6, .bool a1_7] 28)); clear HK1; have HK1 := HK1n; clear HK1n
      have HK2n := Lib.hid (blk_alloc HK2.out (.cells #[.int .i64 a1_0, .int .i64 a1_1, .bool a1_2, .bool a1_3, .int .i64 a1_4, .int .i64 a1_5, .bool a1_6, .bool a1_7] 28)); clear HK2; have HK2 := HK2n; clear HK2n
      have HK6 := Lib.hid (blk_new w2 (.cells #[.int .i64 a1_0, .int .i64 a1_1, .bool a1_2, .bool a1_3, .int .i64 a1_4, .int .i64 a1_5, .bool a1_6, .bool a1_7] 28)); have HWn := Lib.hid (below_alloc HW.out (.cells #[.int .i64 a1_0, .int .i64 a1_1, .bool a1_2, .bool a1_3, .int .i64 a1_4, .int .i64 a1_5, .bool a1_6, .bool a1_7] 28)); clear HW; have HW := HWn; clear HWn
      have y0_0 := blk_cell HK0.out 0; have y0_1 := blk_cell HK0.out 1; have y0_2 := blk_cell HK0.out 2; have y0_3 := blk_cell HK0.out 3; have y1_1 := blk_cell HK1.out 1; have y1_5 := blk_cell HK1.out 5
      simp only [List.getElem?_toArray, List.getElem?_cons_zero, List.getElem?_cons_succ] at y0_0 y0_1 y0_2 y0_3 y1_1 y1_5
      first | go_region_held3 (fun w' => w'.cell? ⟨w.heap.size, 0, none⟩ = some (.int .i64 a0_0) ∧ w'.cell? ⟨w.heap.size, 1, none⟩ = some (.int .i64 a0_1) ∧ w'.cell? ⟨w.heap.size, 2, none⟩ = some (.int .i64 a0_2) ∧ w'.cell? ⟨w.heap.size, 3, none⟩ = some (.bool a0_3) ∧ w'.cell? ⟨w.heap.size + 1, 1, none⟩ = some (.int .i64 a1_1) ∧ w'.cell? ⟨w.heap.size + 1, 5, none⟩ = some (.int .i64 a1_5))
          (first | (go_split_ands; (repeat' apply And.intro) <;> (first | with_reducible assumption | (with_reducible exact cell_drew (by assumption)))))
          (first | (go_at_call 73; (with_reducible refine (spec_l3Min.calls _ _ _ _ HX0.out).mono ?_); rintro e w' ⟨rfl, hd0⟩; have hb := hd0.below; clear hd0; (with_reducible first | (have HK0n := Lib.hid (blk_below HK0.out hb)) | (have HK0n := Lib.hid (blk_below (blk_drew HK0.out) hb))); (with_reducible first | (have HK1n := Lib.hid (blk_below HK1.out hb)) | (have HK1n := Lib.hid (blk_below (blk_drew HK1.out) hb))); (with_reducible first | (have HK2n := Lib.hid (blk_below HK2.out hb)) | (have HK2n := Lib.hid (blk_below (blk_drew HK2.out) hb))); (with_reducible first | (have HK6n := Lib.hid (blk_below HK6.out hb)) | (have HK6n := Lib.hid (blk_below (blk_drew HK6.out) hb))); (with_reducible first | (have HWn := Lib.hid (below_step HW.out hb)) | (have HWn := Lib.hid (below_step (below_drew1 HW.out) hb))); clear HK0; have HK0 := HK0n; clear HK0n; clear HK1; have HK1 := HK1n; clear HK1n; clear HK2; have HK2 := HK2n; clear HK2n; clear HK6; have HK6 := HK6n; clear HK6n; clear HW; have HW := HWn; clear HWn; clear y0_0 y0_1 y0_2 y0_3 y1_1 y1_5; have y0_0 := blk_cell HK0.out 0; have y0_1 := blk_cell HK0.out 1; have y0_2 := blk_cell HK0.out 2; have y0_3 := blk_cell HK0.out 3; have y1_1 := blk_cell HK1.out 1; have y1_5 := blk_cell HK1.out 5; simp only [List.getElem?_toArray, List.getElem?_cons_zero, List.getElem?_cons_succ] at y0_0 y0_1 y0_2 y0_3 y1_1 y1_5; clear hb) | (go_at_call 72; (with_reducible refine (spec_l3Max.calls _ _ _ _ HX1.out).mono ?_); rintro e w' ⟨rfl, hd0⟩; have hb := hd0.below; clear hd0; (with_reducible first | (have HK0n := Lib.hid (blk_below HK0.out hb)) | (have HK0n := Lib.hid (blk_below (blk_drew HK0.out) hb))); (with_reducible first | (have HK1n := Lib.hid (blk_below HK1.out hb)) | (have HK1n := Lib.hid (blk_below (blk_drew HK1.out) hb))); (with_reducible first | (have HK2n := Lib.hid (blk_below HK2.out hb)) | (have HK2n := Lib.hid (blk_below (blk_drew HK2.out) hb))); (with_reducible first | (have HK6n := Lib.hid (blk_below HK6.out hb)) | (have HK6n := Lib.hid (blk_below (blk_drew HK6.out) hb))); (with_reducible first | (have HWn := Lib.hid (below_step HW.out hb)) | (have HWn := Lib.hid (below_step (below_drew1 HW.out) hb))); clear HK0; have HK0 := HK0n; clear HK0n; clear HK1; have HK1 := HK1n; clear HK1n; clear HK2; have HK2 := HK2n; clear HK2n; clear HK6; have HK6 := HK6n; clear HK6n; clear HW; have HW := HWn; clear HWn; clear y0_0 y0_1 y0_2 y0_3 y1_1 y1_5; have y0_0 := blk_cell HK0.out 0; have y0_1 := blk_cell HK0.out 1; have y0_2 := blk_cell HK0.out 2; have y0_3 := blk_cell HK0.out 3; have y1_1 := blk_cell HK1.out 1; have y1_5 := blk_cell HK1.out 5; simp only [List.getElem?_toArray, List.getElem?_cons_zero, List.getElem?_cons_succ] at y0_0 y0_1 y0_2 y0_3 y1_1 y1_5; clear hb) | (go_at_call 95; (with_reducible refine (spec_l5Ends.calls _ _ _ _ _ _ _ _ _ _ _ HE.out).mono ?_); rintro e w' ⟨rfl, hb⟩; (with_reducible first | (have HK0n := Lib.hid (blk_below HK0.out hb)) | (have HK0n := Lib.hid (blk_below (blk_drew HK0.out) hb))); (with_reducible first | (have HK1n := Lib.hid (blk_below HK1.out hb)) | (have HK1n := Lib.hid (blk_below (blk_drew HK1.out) hb))); (with_reducible first | (have HK2n := Lib.hid (blk_below HK2.out hb)) | (have HK2n := Lib.hid (blk_below (blk_drew HK2.out) hb))); (with_reducible first | (have HK6n := Lib.hid (blk_below HK6.out hb)) | (have HK6n := Lib.hid (blk_below (blk_drew HK6.out) hb))); (with_reducible first | (have HWn := Lib.hid (below_step HW.out hb)) | (have HWn := Lib.hid (below_step (below_drew1 HW.out) hb))); clear HK0; have HK0 := HK0n; clear HK0n; clear HK1; have HK1 := HK1n; clear HK1n; clear HK2; have HK2 := HK2n; clear HK2n; clear HK6; have HK6 := HK6n; clear HK6n; clear HW; have HW := HWn; clear HWn; clear y0_0 y0_1 y0_2 y0_3 y1_1 y1_5; have y0_0 := blk_cell HK0.out 0; have y0_1 := blk_cell HK0.out 1; have y0_2 := blk_cell HK0.out 2; have y0_3 := blk_cell HK0.out 3; have y1_1 := blk_cell HK1.out 1; have y1_5 := blk_cell HK1.out 5; simp only [List.getElem?_toArray, List.getElem?_cons_zero, List.getElem?_cons_succ] at y0_0 y0_1 y0_2 y0_3 y1_1 y1_5; clear hb)) | fail
      clear y0_0 y0_1 y0_2 y0_3 y1_1 y1_5; go_split_ands
      have p0 := blk_cell HK6.out 0; have p1 := blk_cell HK6.out 1; have p2 := blk_cell HK6.out 2; have p3 := blk_cell HK6.out 3; have p4 := blk_cell HK6.out 4; have p5 := blk_cell HK6.out 5; have p6 := blk_cell HK6.out 6; have p7 := blk_cell HK6.out 7
      simp only [List.getElem?_toArray, List.getElem?_cons_zero, List.getElem?_cons_succ] at p0 p1 p2 p3 p4 p5 p6 p7
      have fp0 := blk_frozen HK6.out 0; have fp1 := blk_frozen HK6.out 1; have fp2 := blk_frozen HK6.out 2; have fp3 := blk_frozen HK6.out 3; have fp4 := blk_frozen HK6.out 4; have fp5 := blk_frozen HK6.out 5; have fp6 := blk_frozen HK6.out 6; have fp7 := blk_frozen HK6.out 7
      have q0 := blk_cell HK2.out 0; have q1 := blk_cell HK2.out 1; have q2 := blk_cell HK2.out 2; have q3 := blk_cell HK2.out 3; have q4 := blk_cell HK2.out 4; have q5 := blk_cell HK2.out 5; have q6 := blk_cell HK2.out 6; have q7 := blk_cell HK2.out 7
      simp only [List.getElem?_toArray, List.getElem?_cons_zero, List.getElem?_cons_succ] at q0 q1 q2 q3 q4 q5 q6 q7
      have fq0 := blk_frozen HK2.out 0; have fq1 := blk_frozen HK2.out 1; have fq2 := blk_frozen HK2.out 2; have fq3 := blk_frozen HK2.out 3; have fq4 := blk_frozen HK2.out 4; have fq5 := blk_frozen HK2.out 5; have fq6 := blk_frozen HK2.out 6; have fq7 := blk_frozen HK2.out 7
      have lt6_ := blk_lt HK6.out; have hh := HH.out
      have h1_ := blk_put HK6.out 1 (.int .i64 e1) (cs' := #[.int .i64 a1_0, .int .i64 e1, .bool a1_2, .bool a1_3, .int .i64 a1_4, .int .i64 a1_5, .bool a1_6, .bool a1_7]) rfl; have h2_ := blk_put h1_ 5 (.int .i64 e2) (cs' := #[.int .i64 a1_0, .int .i64 e1, .bool a1_2, .bool a1_3, .int .i64 a1_4, .int .i64 e2, .bool a1_6, .bool a1_7]) rfl; have h3_ := blk_put h2_ 1 (.int .i64 e2) (cs' := #[.int .i64 a1_0, .int .i64 e2, .bool a1_2, .bool a1_3, .int .i64 a1_4, .int .i64 e2, .bool a1_6, .bool a1_7]) rfl; have h4_ := blk_put h3_ 5 (.int .i64 e1) (cs' := #[.int .i64 a1_0, .int .i64 e2, .bool a1_2, .bool a1_3, .int .i64 a1_4, .int .i64 e1, .bool a1_6, .bool a1_7]) rfl
      have s0 := blk_cell h4_ 0; have s1 := blk_cell h4_ 1; have s2 := blk_cell h4_ 2; have s3 := blk_cell h4_ 3; have s4 := blk_cell h4_ 4; have s5 := blk_cell h4_ 5; have s6 := blk_cell h4_ 6; have s7 := blk_cell h4_ 7
      simp only [List.getElem?_toArray, List.getElem?_cons_zero, List.getElem?_cons_succ] at s0 s1 s2 s3 s4 s5 s6 s7
      clear h1_ h2_ h3_ h4_
      by_cases c1 : a1_1 > a1_5
      all_goals
        simp only [c1, if_true, if_false] at hh
        first
          | (have b1 : decide (a1_5 < a1_1) = true := decide_eq_true c1; clear c1)
          | (have b1 : decide (a1_5 < a1_1) = false := decide_eq_false c1; clear c1)
        cases e3
        all_goals
          simp only [Bool.false_eq_true, if_true, if_false, Option.some.injEq, Prod.mk.injEq] at hh
          obtain ⟨rfl, rfl, rfl, rfl, rfl, rfl, rfl, rfl, rfl⟩ := hh
          go_wp2_with fail
          (try simp only [Exit.inBlock, Exit.then]); refine bodyPost_ret (results_ct rfl _ _ (w.heap.size + 2) 28 _ (0, 0) _ rfl (put8 (c0 := .int .i64 0) (c1 := .int .i64 0) (c2 := .bool false) (c3 := .bool false) (c4 := .int .i64 0) (c5 := .int .i64 0) (c6 := .bool false) (c7 := .bool false) ?hx) Try.underlying28 rfl (by kernel_rfl)) rfl ?_
          case hx => exact (by (with_reducible repeat (first | exact HK2.out | refine blk_far ?_ (Nat.ne_of_lt (by assumption)) _)))
          exact ⟨rfl, (by (with_reducible repeat (first | exact HW.out | refine Below.setCell ?_ (by first | exact Nat.le_refl _ | exact Nat.le_add_right _ _ | exact Nat.le_trans (Nat.le_succ _) (Nat.le_succ _) | exact Nat.le_of_lt (by assumption)) _)))⟩

/-! ### impl_Ref_place: function 91 -/

def impl_Ref_place.f (a0_0 : Int) (a0_1 : Int) (a0_2 : Bool) (a0_3 : Bool) : Option (Int × Int) := some (a0_0, a0_1)

set_option maxHeartbeats 8000000 in
set_option maxRecDepth 100000 in
theorem impl_Ref_place.calls (a0_0 : Int) (a0_1 : Int) (a0_2 : Bool) (a0_3 : Bool) (r1 : Int) (r2 : Int) (w : World) (h : impl_Ref_place.f a0_0 a0_1 a0_2 a0_3 = some (r1, r2)) :
    Calls Try.prog 91 #[.agg #[.int .i64 a0_0, .int .i64 a0_1, .bool a0_2, .bool a0_3]] w fun e w' => e = .returned (.agg #[.int .i64 r1, .int .i64 r2]) ∧ Below w.heap.size w w' := by
  have hu26 := Try.underlying26
  have hu109 := Try.underlying109
  have HB := Aside0.mk (Below.refl w.heap.size w)
  have H : (some (a0_0, a0_1)) = some (r1, r2) := h
  clear h
  simp only [Option.some.injEq, Prod.mk.injEq] at H
  obtain ⟨rfl, rfl⟩ := H
  go_enter Try.func91, Try.ntmps91
  go_wp2_with (first | ((with_reducible refine gate_dst (N := 1) rfl ?_); refine box_event ?hg (N := 1) ?hd (cs := #[.int .i64 a0_0, .int .i64 a0_1, .bool a0_2, .bool a0_3]) (t := 26) ?hr ?_; (case hd => rfl); (case hg => rfl); (case hr => first | (go_simp; done) | (go_simp; rfl)); intro gb152 hg w2 hbox hb; have n0_ := Aside0.mk (below_step (by repeat (first | (with_reducible first | exact HB.out | apply below_alloc | apply pw_below_drewN | apply below_drew1) | exact HB.out)) hb); have n1_ := Aside0.mk (hbox); have n2_ := Aside0.mk ((by rw [hg]; exact (below_size (by repeat (first | (with_reducible first | exact HB.out | apply below_alloc | apply pw_below_drewN | apply below_drew1) | exact HB.out))) : w.heap.size ≤ gb152)); have n3_ := Aside0.mk ((by rw [hg]; exact (below_size (by repeat (first | (with_reducible first | exact HB.out | apply below_alloc | apply pw_below_drewN | apply below_drew1) | exact HB.out))) : w.heap.size ≤ gb152)); clear HB; have HB := n0_; have BK152 := n1_; have GW152 := n2_; have GE152 := n3_; clear n0_ n1_ n2_ n3_; clear hb hbox hg) | ((with_reducible refine gate_dst (N := 2) rfl ?_); refine box_event ?hg (N := 2) ?hd (cs := #[.int .i64 0, .int .i64 0]) (t := 109) ?hr ?_; (case hd => rfl); (case hg => rfl); (case hr => first | (go_simp; done) | (go_simp; rfl)); intro gb153 hg w3 hbox hb; have n0_ := Aside0.mk (blk_below (g := gb152) (o := .cells #[.int .i64 a0_0, .int .i64 a0_1, .bool a0_2, .bool a0_3] 26 (0, 0)) (by (with_reducible repeat (first | refine blk_drewN ?_ _ | refine blk_drew ?_ | refine blk_alloc ?_ _)); exact BK152.out) hb); have n1_ := Aside0.mk (below_step (by repeat (first | (with_reducible first | exact HB.out | apply below_alloc | apply pw_below_drewN | apply below_drew1 | refine below_set ?_ GE152.out) | exact HB.out)) hb); have n2_ := Aside0.mk (hbox); have n3_ := Aside0.mk ((by rw [hg]; exact (below_size (by repeat (first | (with_reducible first | exact HB.out | apply below_alloc | apply pw_below_drewN | apply below_drew1 | refine below_set ?_ GE152.out) | exact HB.out))) : w.heap.size ≤ gb153)); have n4_ := Aside0.mk ((by rw [hg]; exact (below_size (by repeat (first | (with_reducible first | exact HB.out | apply below_alloc | apply pw_below_drewN | apply below_drew1 | refine below_set ?_ GE152.out) | exact HB.out))) : w.heap.size ≤ gb153)); have n5_ := Aside0.mk ((by rw [hg]; exact Nat.ne_of_lt (blk_lt (g := gb152) (o := .cells #[.int .i64 a0_0, .int .i64 a0_1, .bool a0_2, .bool a0_3] 26 (0, 0)) (by (with_reducible repeat (first | refine blk_drewN ?_ _ | refine blk_drew ?_ | refine blk_alloc ?_ _)); exact BK152.out)) : gb152 ≠ gb153)); have n6_ := Aside0.mk ((by rw [hg]; exact Nat.ne_of_gt (blk_lt (g := gb152) (o := .cells #[.int .i64 a0_0, .int .i64 a0_1, .bool a0_2, .bool a0_3] 26 (0, 0)) (by (with_reducible repeat (first | refine blk_drewN ?_ _ | refine blk_drew ?_ | refine blk_alloc ?_ _)); exact BK152.out)) : gb153 ≠ gb152)); clear BK152; clear HB; have BK152 := n0_; have HB := n1_; have BK153 := n2_; have GW153 := n3_; have GE153 := n4_; have NB152_153 := n5_; have NB153_152 := n6_; clear n0_ n1_ n2_ n3_ n4_ n5_ n6_; clear hb hbox hg; have hnb4 := NB152_153.out; have hnc4 := NB153_152.out; have hcz5_0 : w3.cell? ⟨gb152, 0, none⟩ = some (.int .i64 a0_0) := (blk_cell BK152.out 0).trans rfl; have hcz5_1 : w3.cell? ⟨gb152, 1, none⟩ = some (.int .i64 a0_1) := (blk_cell BK152.out 1).trans rfl; have hcz5_2 : w3.cell? ⟨gb152, 2, none⟩ = some (.bool a0_2) := (blk_cell BK152.out 2).trans rfl; have hcz5_3 : w3.cell? ⟨gb152, 3, none⟩ = some (.bool a0_3) := (blk_cell BK152.out 3).trans rfl; have hfz5_0 := blk_frozen BK152.out 0; have hfz5_1 := blk_frozen BK152.out 1; have hfz5_2 := blk_frozen BK152.out 2; have hfz5_3 := blk_frozen BK152.out 3; have hcz6_0 : w3.cell? ⟨gb153, 0, none⟩ = some (.int .i64 0) := (blk_cell BK153.out 0).trans rfl; have hcz6_1 : w3.cell? ⟨gb153, 1, none⟩ = some (.int .i64 0) := (blk_cell BK153.out 1).trans rfl; have hfz6_0 := blk_frozen BK153.out 0; have hfz6_1 := blk_frozen BK153.out 1))
  refine bodyPost_ret (results_cell_row rfl _ _ gb153 109 #[.int .i64 a0_0, .int .i64 a0_1] (0, 0) _ rfl (by (with_reducible repeat (first | refine blk_drewN ?_ _ | refine blk_drew ?_ | refine blk_alloc ?_ _)); refine blk_put (cs := #[.int .i64 a0_0, .int .i64 0]) ?_ 1 _ rfl; (with_reducible repeat (first | refine blk_drewN ?_ _ | refine blk_drew ?_ | refine blk_alloc ?_ _)); refine blk_put (cs := #[.int .i64 0, .int .i64 0]) ?_ 0 _ rfl; (with_reducible repeat (first | refine blk_drewN ?_ _ | refine blk_drew ?_ | refine blk_alloc ?_ _)); exact BK153.out) Try.underlying109 rfl (by kernel_rfl)) rfl ?_
  exact ⟨by first | rfl | (simp [errW_none, errW_some] <;> rfl) | (simp [*, errW_none, errW_some] <;> rfl), by repeat (first | (with_reducible first | exact HB.out | apply below_alloc | apply pw_below_drewN | apply below_drew1 | refine below_set ?_ GE152.out | refine below_set ?_ GE153.out) | exact HB.out)⟩



/-! ### impl_place_good: function 128 -/

def impl_place_good.f (a0_0 : Int) (a0_1 : Int) : Option (Bool) := if a0_0 ≥ 1 then (if a0_0 ≤ 1000 then (if a0_1 ≥ 1 then (some (decide (a0_1 ≤ 200))) else (some false)) else (some false)) else (some false)

set_option maxHeartbeats 8000000 in
set_option maxRecDepth 100000 in
theorem impl_place_good.calls (a0_0 : Int) (a0_1 : Int) (r : Bool) (w : World) (h : impl_place_good.f a0_0 a0_1 = some r) :
    Calls Try.prog 128 #[.agg #[.int .i64 a0_0, .int .i64 a0_1]] w fun e w' => e = .returned (.bool r) ∧ Below w.heap.size w w' := by
  have hu109 := Try.underlying109
  have HB := Aside0.mk (Below.refl w.heap.size w)
  have H : (if a0_0 ≥ 1 then (if a0_0 ≤ 1000 then (if a0_1 ≥ 1 then (some (decide (a0_1 ≤ 200))) else (some false)) else (some false)) else (some false)) = some r := h
  clear h
  by_cases c2 : a0_0 ≥ 1
  · rw [if_pos c2] at H
    have c2b0 : decide (1 ≤ a0_0) = true := decide_eq_true c2
    clear c2
    by_cases c3 : a0_0 ≤ 1000
    · rw [if_pos c3] at H
      have c3b0 : decide (a0_0 ≤ 1000) = true := decide_eq_true c3
      clear c3
      by_cases c4 : a0_1 ≥ 1
      · rw [if_pos c4] at H
        have c4b0 : decide (1 ≤ a0_1) = true := decide_eq_true c4
        clear c4
        obtain rfl := Option.some.inj H
        go_enter Try.func128, Try.ntmps128
        go_wp2_with (first | ((with_reducible refine gate_dst (N := 1) rfl ?_); refine box_event ?hg (N := 1) ?hd (cs := #[.int .i64 a0_0, .int .i64 a0_1]) (t := 109) ?hr ?_; (case hd => rfl); (case hg => rfl); (case hr => first | (go_simp; done) | (go_simp; rfl)); intro gb154 hg w5 hbox hb; have n0_ := Aside0.mk (below_step (by repeat (first | (with_reducible first | exact HB.out | apply below_alloc | apply pw_below_drewN | apply below_drew1) | exact HB.out)) hb); have n1_ := Aside0.mk (hbox); have n2_ := Aside0.mk ((by rw [hg]; exact (below_size (by repeat (first | (with_reducible first | exact HB.out | apply below_alloc | apply pw_below_drewN | apply below_drew1) | exact HB.out))) : w.heap.size ≤ gb154)); have n3_ := Aside0.mk ((by rw [hg]; exact (below_size (by repeat (first | (with_reducible first | exact HB.out | apply below_alloc | apply pw_below_drewN | apply below_drew1) | exact HB.out))) : w.heap.size ≤ gb154)); clear HB; have HB := n0_; have BK154 := n1_; have GW154 := n2_; have GE154 := n3_; clear n0_ n1_ n2_ n3_; clear hb hbox hg; have hcz6_0 : w5.cell? ⟨gb154, 0, none⟩ = some (.int .i64 a0_0) := (blk_cell BK154.out 0).trans rfl; have hcz6_1 : w5.cell? ⟨gb154, 1, none⟩ = some (.int .i64 a0_1) := (blk_cell BK154.out 1).trans rfl; have hfz6_0 := blk_frozen BK154.out 0; have hfz6_1 := blk_frozen BK154.out 1))
        go_ret
        exact ⟨by first | rfl | (simp [errW_none, errW_some] <;> rfl) | (simp [*, errW_none, errW_some] <;> rfl), by repeat (first | (with_reducible first | exact HB.out | apply below_alloc | apply pw_below_drewN | apply below_drew1 | refine below_set ?_ GE154.out) | exact HB.out)⟩
      · rw [if_neg c4] at H
        have c4b0 : decide (1 ≤ a0_1) = false := decide_eq_false c4
        clear c4
        obtain rfl := Option.some.inj H
        go_enter Try.func128, Try.ntmps128
        go_wp2_with (first | ((with_reducible refine gate_dst (N := 1) rfl ?_); refine box_event ?hg (N := 1) ?hd (cs := #[.int .i64 a0_0, .int .i64 a0_1]) (t := 109) ?hr ?_; (case hd => rfl); (case hg => rfl); (case hr => first | (go_simp; done) | (go_simp; rfl)); intro gb154 hg w7 hbox hb; have n0_ := Aside0.mk (below_step (by repeat (first | (with_reducible first | exact HB.out | apply below_alloc | apply pw_below_drewN | apply below_drew1) | exact HB.out)) hb); have n1_ := Aside0.mk (hbox); have n2_ := Aside0.mk ((by rw [hg]; exact (below_size (by repeat (first | (with_reducible first | exact HB.out | apply below_alloc | apply pw_below_drewN | apply below_drew1) | exact HB.out))) : w.heap.size ≤ gb154)); have n3_ := Aside0.mk ((by rw [hg]; exact (below_size (by repeat (first | (with_reducible first | exact HB.out | apply below_alloc | apply pw_below_drewN | apply below_drew1) | exact HB.out))) : w.heap.size ≤ gb154)); clear HB; have HB := n0_; have BK154 := n1_; have GW154 := n2_; have GE154 := n3_; clear n0_ n1_ n2_ n3_; clear hb hbox hg; have hcz8_0 : w7.cell? ⟨gb154, 0, none⟩ = some (.int .i64 a0_0) := (blk_cell BK154.out 0).trans rfl; have hcz8_1 : w7.cell? ⟨gb154, 1, none⟩ = some (.int .i64 a0_1) := (blk_cell BK154.out 1).trans rfl; have hfz8_0 := blk_frozen BK154.out 0; have hfz8_1 := blk_frozen BK154.out 1))
        go_ret
        exact ⟨by first | rfl | (simp [errW_none, errW_some] <;> rfl) | (simp [*, errW_none, errW_some] <;> rfl), by repeat (first | (with_reducible first | exact HB.out | apply below_alloc | apply pw_below_drewN | apply below_drew1 | refine below_set ?_ GE154.out) | exact HB.out)⟩
    · rw [if_neg c3] at H
      have c3b0 : decide (a0_0 ≤ 1000) = false := decide_eq_false c3
      clear c3
      obtain rfl := Option.some.inj H
      go_enter Try.func128, Try.ntmps128
      go_wp2_with (first | ((with_reducible refine gate_dst (N := 1) rfl ?_); refine box_event ?hg (N := 1) ?hd (cs := #[.int .i64 a0_0, .int .i64 a0_1]) (t := 109) ?hr ?_; (case hd => rfl); (case hg => rfl); (case hr => first | (go_simp; done) | (go_simp; rfl)); intro gb154 hg w9 hbox hb; have n0_ := Aside0.mk (below_step (by repeat (first | (with_reducible first | exact HB.out | apply below_alloc | apply pw_below_drewN | apply below_drew1) | exact HB.out)) hb); have n1_ := Aside0.mk (hbox); have n2_ := Aside0.mk ((by rw [hg]; exact (below_size (by repeat (first | (with_reducible first | exact HB.out | apply below_alloc | apply pw_below_drewN | apply below_drew1) | exact HB.out))) : w.heap.size ≤ gb154)); have n3_ := Aside0.mk ((by rw [hg]; exact (below_size (by repeat (first | (with_reducible first | exact HB.out | apply below_alloc | apply pw_below_drewN | apply below_drew1) | exact HB.out))) : w.heap.size ≤ gb154)); clear HB; have HB := n0_; have BK154 := n1_; have GW154 := n2_; have GE154 := n3_; clear n0_ n1_ n2_ n3_; clear hb hbox hg; have hcz10_0 : w9.cell? ⟨gb154, 0, none⟩ = some (.int .i64 a0_0) := (blk_cell BK154.out 0).trans rfl; have hcz10_1 : w9.cell? ⟨gb154, 1, none⟩ = some (.int .i64 a0_1) := (blk_cell BK154.out 1).trans rfl; have hfz10_0 := blk_frozen BK154.out 0; have hfz10_1 := blk_frozen BK154.out 1))
      go_ret
      exact ⟨by first | rfl | (simp [errW_none, errW_some] <;> rfl) | (simp [*, errW_none, errW_some] <;> rfl), by repeat (first | (with_reducible first | exact HB.out | apply below_alloc | apply pw_below_drewN | apply below_drew1 | refine below_set ?_ GE154.out) | exact HB.out)⟩
  · rw [if_neg c2] at H
    have c2b0 : decide (1 ≤ a0_0) = false := decide_eq_false c2
    clear c2
    obtain rfl := Option.some.inj H
    go_enter Try.func128, Try.ntmps128
    go_wp2_with (first | ((with_reducible refine gate_dst (N := 1) rfl ?_); refine box_event ?hg (N := 1) ?hd (cs := #[.int .i64 a0_0, .int .i64 a0_1]) (t := 109) ?hr ?_; (case hd => rfl); (case hg => rfl); (case hr => first | (go_simp; done) | (go_simp; rfl)); intro gb154 hg w11 hbox hb; have n0_ := Aside0.mk (below_step (by repeat (first | (with_reducible first | exact HB.out | apply below_alloc | apply pw_below_drewN | apply below_drew1) | exact HB.out)) hb); have n1_ := Aside0.mk (hbox); have n2_ := Aside0.mk ((by rw [hg]; exact (below_size (by repeat (first | (with_reducible first | exact HB.out | apply below_alloc | apply pw_below_drewN | apply below_drew1) | exact HB.out))) : w.heap.size ≤ gb154)); have n3_ := Aside0.mk ((by rw [hg]; exact (below_size (by repeat (first | (with_reducible first | exact HB.out | apply below_alloc | apply pw_below_drewN | apply below_drew1) | exact HB.out))) : w.heap.size ≤ gb154)); clear HB; have HB := n0_; have BK154 := n1_; have GW154 := n2_; have GE154 := n3_; clear n0_ n1_ n2_ n3_; clear hb hbox hg; have hcz12_0 : w11.cell? ⟨gb154, 0, none⟩ = some (.int .i64 a0_0) := (blk_cell BK154.out 0).trans rfl; have hcz12_1 : w11.cell? ⟨gb154, 1, none⟩ = some (.int .i64 a0_1) := (blk_cell BK154.out 1).trans rfl; have hfz12_0 := blk_frozen BK154.out 0; have hfz12_1 := blk_frozen BK154.out 1))
    go_ret
    exact ⟨by first | rfl | (simp [errW_none, errW_some] <;> rfl) | (simp [*, errW_none, errW_some] <;> rfl), by repeat (first | (with_reducible first | exact HB.out | apply below_alloc | apply pw_below_drewN | apply below_drew1 | refine below_set ?_ GE154.out) | exact HB.out)⟩



/-! ### impl_GoodRef: function 81 -/

def impl_GoodRef.f (a0_0 : Int) (a0_1 : Int) (a0_2 : Bool) (a0_3 : Bool) : Option (Bool) := (impl_Ref_place.f a0_0 a0_1 a0_2 a0_3).bind fun bt156 => ((impl_place_good.f bt156.1 bt156.2).bind fun t158 => (some t158))

set_option maxHeartbeats 8000000 in
set_option maxRecDepth 100000 in
theorem impl_GoodRef.calls (a0_0 : Int) (a0_1 : Int) (a0_2 : Bool) (a0_3 : Bool) (r : Bool) (w : World) (h : impl_GoodRef.f a0_0 a0_1 a0_2 a0_3 = some r) :
    Calls Try.prog 81 #[.agg #[.int .i64 a0_0, .int .i64 a0_1, .bool a0_2, .bool a0_3]] w fun e w' => e = .returned (.bool r) ∧ Below w.heap.size w w' := by
  have hu26 := Try.underlying26
  have HB := Aside0.mk (Below.refl w.heap.size w)
  have H : ((impl_Ref_place.f a0_0 a0_1 a0_2 a0_3).bind fun bt156 => ((impl_place_good.f bt156.1 bt156.2).bind fun t158 => (some t158))) = some r := h
  clear h
  replace H := Option.bind_eq_some_iff.mp H
  obtain ⟨⟨t156, t157⟩, A20, H⟩ := H
  replace H : ((impl_place_good.f t156 t157).bind fun t158 => (some t158)) = some r := H
  have A2 := Aside0.mk A20
  clear A20
  replace H := Option.bind_eq_some_iff.mp H
  obtain ⟨t158, A30, H⟩ := H
  replace H : (some t158) = some r := H
  have A3 := Aside0.mk A30
  clear A30
  obtain rfl := Option.some.inj H
  go_enter Try.func81, Try.ntmps81
  go_wp2_with (first | ((with_reducible refine gate_dst (N := 1) rfl ?_); refine box_event ?hg (N := 1) ?hd (cs := #[.int .i64 a0_0, .int .i64 a0_1, .bool a0_2, .bool a0_3]) (t := 26) ?hr ?_; (case hd => rfl); (case hg => rfl); (case hr => first | (go_simp; done) | (go_simp; rfl)); intro gb155 hg w4 hbox hb; have n0_ := Aside0.mk (below_step (by repeat (first | (with_reducible first | exact HB.out | apply below_alloc | apply pw_below_drewN | apply below_drew1) | exact HB.out)) hb); have n1_ := Aside0.mk (hbox); have n2_ := Aside0.mk ((by rw [hg]; exact (below_size (by repeat (first | (with_reducible first | exact HB.out | apply below_alloc | apply pw_below_drewN | apply below_drew1) | exact HB.out))) : w.heap.size ≤ gb155)); have n3_ := Aside0.mk ((by rw [hg]; exact (below_size (by repeat (first | (with_reducible first | exact HB.out | apply below_alloc | apply pw_below_drewN | apply below_drew1) | exact HB.out))) : w.heap.size ≤ gb155)); clear HB; have HB := n0_; have BK155 := n1_; have GW155 := n2_; have GE155 := n3_; clear n0_ n1_ n2_ n3_; clear hb hbox hg; have hcz5_0 : w4.cell? ⟨gb155, 0, none⟩ = some (.int .i64 a0_0) := (blk_cell BK155.out 0).trans rfl; have hcz5_1 : w4.cell? ⟨gb155, 1, none⟩ = some (.int .i64 a0_1) := (blk_cell BK155.out 1).trans rfl; have hcz5_2 : w4.cell? ⟨gb155, 2, none⟩ = some (.bool a0_2) := (blk_cell BK155.out 2).trans rfl; have hcz5_3 : w4.cell? ⟨gb155, 3, none⟩ = some (.bool a0_3) := (blk_cell BK155.out 3).trans rfl; have hfz5_0 := blk_frozen BK155.out 0; have hfz5_1 := blk_frozen BK155.out 1; have hfz5_2 := blk_frozen BK155.out 2; have hfz5_3 := blk_frozen BK155.out 3) | ((with_reducible refine gate_callee (f := 91) rfl ?_); refine goesL_ (some 4) rfl rfl Try.func91 (by kernel_rfl) rfl #[.agg #[.int .i64 a0_0, .int .i64 a0_1, .bool a0_2, .bool a0_3]] rfl (by (try simp only [List.map_toArray, List.map_cons, List.map_nil]); first | done | rfl | (simp only [List.length_drop, List.length_take]; rfl)) ?_; (with_reducible refine (impl_Ref_place.calls a0_0 a0_1 a0_2 a0_3 t156 t157 _ A2.out).mono ?_); rintro e w6 ⟨rfl, hb⟩; refine ⟨_, rfl, ?_⟩; have n0_ := Aside0.mk (blk_below (g := gb155) (o := .cells #[.int .i64 a0_0, .int .i64 a0_1, .bool a0_2, .bool a0_3] 26 (0, 0)) (by (with_reducible repeat (first | refine blk_drewN ?_ _ | refine blk_drew ?_ | refine blk_alloc ?_ _)); exact BK155.out) hb); have n1_ := Aside0.mk (below_step (by repeat (first | (with_reducible first | exact HB.out | apply below_alloc | apply pw_below_drewN | apply below_drew1 | refine below_set ?_ GE155.out) | exact HB.out)) hb); clear BK155; clear HB; have BK155 := n0_; have HB := n1_; clear n0_ n1_; (try clear hb); (try clear hb2); (try clear hk); (try clear hi)) | ((with_reducible refine gate_callee (f := 128) rfl ?_); refine goesL_ (some 5) rfl rfl Try.func128 (by kernel_rfl) rfl #[.agg #[.int .i64 t156, .int .i64 t157]] rfl (by (try simp only [List.map_toArray, List.map_cons, List.map_nil]); first | done | rfl | (simp only [List.length_drop, List.length_take]; rfl)) ?_; (with_reducible refine (impl_place_good.calls t156 t157 t158 _ A3.out).mono ?_); rintro e w7 ⟨rfl, hb⟩; refine ⟨_, rfl, ?_⟩; have n0_ := Aside0.mk (blk_below (g := gb155) (o := .cells #[.int .i64 a0_0, .int .i64 a0_1, .bool a0_2, .bool a0_3] 26 (0, 0)) (by (with_reducible repeat (first | refine blk_drewN ?_ _ | refine blk_drew ?_ | refine blk_alloc ?_ _)); exact BK155.out) hb); have n1_ := Aside0.mk (below_step (by repeat (first | (with_reducible first | exact HB.out | apply below_alloc | apply pw_below_drewN | apply below_drew1 | refine below_set ?_ GE155.out) | exact HB.out)) hb); clear BK155; clear HB; have BK155 := n0_; have HB := n1_; clear n0_ n1_; (try clear hb); (try clear hb2); (try clear hk); (try clear hi)))
  go_ret
  exact ⟨by first | rfl | (simp [errW_none, errW_some] <;> rfl) | (simp [*, errW_none, errW_some] <;> rfl), by repeat (first | (with_reducible first | exact HB.out | apply below_alloc | apply pw_below_drewN | apply below_drew1 | refine below_set ?_ GE155.out) | exact HB.out)⟩



/-! ### impl_GoodArea: function 66 -/

def impl_GoodArea.f (a0_0 : Int) (a0_1 : Int) (a0_2 : Bool) (a0_3 : Bool) (a0_4 : Int) (a0_5 : Int) (a0_6 : Bool) (a0_7 : Bool) : Option (Bool) := (impl_GoodRef.f a0_0 a0_1 a0_2 a0_3).bind fun t160 => (if t160 = true then ((impl_GoodRef.f a0_4 a0_5 a0_6 a0_7).bind fun t161 => (some t161)) else (some false))

set_option maxHeartbeats 8000000 in
set_option maxRecDepth 100000 in
theorem impl_GoodArea.calls (a0_0 : Int) (a0_1 : Int) (a0_2 : Bool) (a0_3 : Bool) (a0_4 : Int) (a0_5 : Int) (a0_6 : Bool) (a0_7 : Bool) (r : Bool) (w : World) (h : impl_GoodArea.f a0_0 a0_1 a0_2 a0_3 a0_4 a0_5 a0_6 a0_7 = some r) :
    Calls Try.prog 66 #[.agg #[.int .i64 a0_0, .int .i64 a0_1, .bool a0_2, .bool a0_3, .int .i64 a0_4, .int .i64 a0_5, .bool a0_6, .bool a0_7]] w fun e w' => e = .returned (.bool r) ∧ Below w.heap.size w w' := by
  have hu28 := Try.underlying28
  have hu26 := Try.underlying26
  have HB := Aside0.mk (Below.refl w.heap.size w)
  have H : ((impl_GoodRef.f a0_0 a0_1 a0_2 a0_3).bind fun t160 => (if t160 = true then ((impl_GoodRef.f a0_4 a0_5 a0_6 a0_7).bind fun t161 => (some t161)) else (some false))) = some r := h
  clear h
  replace H := Option.bind_eq_some_iff.mp H
  obtain ⟨t160, A20, H⟩ := H
  replace H : (if t160 = true then ((impl_GoodRef.f a0_4 a0_5 a0_6 a0_7).bind fun t161 => (some t161)) else (some false)) = some r := H
  have A2 := Aside0.mk A20
  clear A20
  by_cases c3 : t160 = true
  · subst c3
    have H1 : ((impl_GoodRef.f a0_4 a0_5 a0_6 a0_7).bind fun t161 => (some t161)) = some r := by rw [if_pos rfl] at H; exact H
    clear H
    have H := H1
    clear H1
    replace H := Option.bind_eq_some_iff.mp H
    obtain ⟨t161, A40, H⟩ := H
    replace H : (some t161) = some r := H
    have A4 := Aside0.mk A40
    clear A40
    obtain rfl := Option.some.inj H
    go_enter Try.func66, Try.ntmps66
    go_wp2_with (first | ((with_reducible refine gate_dst (N := 1) rfl ?_); refine box_event ?hg (N := 1) ?hd (cs := #[.int .i64 a0_0, .int .i64 a0_1, .bool a0_2, .bool a0_3, .int .i64 a0_4, .int .i64 a0_5, .bool a0_6, .bool a0_7]) (t := 28) ?hr ?_; (case hd => rfl); (case hg => rfl); (case hr => first | (go_simp; done) | (go_simp; rfl)); intro gb159 hg w5 hbox hb; have n0_ := Aside0.mk (below_step (by repeat (first | (with_reducible first | exact HB.out | apply below_alloc | apply pw_below_drewN | apply below_drew1) | exact HB.out)) hb); have n1_ := Aside0.mk (hbox); have n2_ := Aside0.mk ((by rw [hg]; exact (below_size (by repeat (first | (with_reducible first | exact HB.out | apply below_alloc | apply pw_below_drewN | apply below_drew1) | exact HB.out))) : w.heap.size ≤ gb159)); have n3_ := Aside0.mk ((by rw [hg]; exact (below_size (by repeat (first | (with_reducible first | exact HB.out | apply below_alloc | apply pw_below_drewN | apply below_drew1) | exact HB.out))) : w.heap.size ≤ gb159)); clear HB; have HB := n0_; have BK159 := n1_; have GW159 := n2_; have GE159 := n3_; clear n0_ n1_ n2_ n3_; clear hb hbox hg; have hcz6_0 : w5.cell? ⟨gb159, 0, none⟩ = some (.int .i64 a0_0) := (blk_cell BK159.out 0).trans rfl; have hcz6_1 : w5.cell? ⟨gb159, 1, none⟩ = some (.int .i64 a0_1) := (blk_cell BK159.out 1).trans rfl; have hcz6_2 : w5.cell? ⟨gb159, 2, none⟩ = some (.bool a0_2) := (blk_cell BK159.out 2).trans rfl; have hcz6_3 : w5.cell? ⟨gb159, 3, none⟩ = some (.bool a0_3) := (blk_cell BK159.out 3).trans rfl; have hcz6_4 : w5.cell? ⟨gb159, 4, none⟩ = some (.int .i64 a0_4) := (blk_cell BK159.out 4).trans rfl; have hcz6_5 : w5.cell? ⟨gb159, 5, none⟩ = some (.int .i64 a0_5) := (blk_cell BK159.out 5).trans rfl; have hcz6_6 : w5.cell? ⟨gb159, 6, none⟩ = some (.bool a0_6) := (blk_cell BK159.out 6).trans rfl; have hcz6_7 : w5.cell? ⟨gb159, 7, none⟩ = some (.bool a0_7) := (blk_cell BK159.out 7).trans rfl; have hfz6_0 := blk_frozen BK159.out 0; have hfz6_1 := blk_frozen BK159.out 1; have hfz6_2 := blk_frozen BK159.out 2; have hfz6_3 := blk_frozen BK159.out 3; have hfz6_4 := blk_frozen BK159.out 4; have hfz6_5 := blk_frozen BK159.out 5; have hfz6_6 := blk_frozen BK159.out 6; have hfz6_7 := blk_frozen BK159.out 7) | ((with_reducible refine gate_callee (f := 81) rfl ?_); refine goesL_ (some 5) rfl rfl Try.func81 (by kernel_rfl) rfl #[.agg #[.int .i64 a0_0, .int .i64 a0_1, .bool a0_2, .bool a0_3]] rfl (by (try simp only [List.map_toArray, List.map_cons, List.map_nil]); first | done | rfl | (simp only [List.length_drop, List.length_take]; rfl)) ?_; (with_reducible refine (impl_GoodRef.calls a0_0 a0_1 a0_2 a0_3 true _ A2.out).mono ?_); rintro e w7 ⟨rfl, hb⟩; refine ⟨_, rfl, ?_⟩; have n0_ := Aside0.mk (blk_below (g := gb159) (o := .cells #[.int .i64 a0_0, .int .i64 a0_1, .bool a0_2, .bool a0_3, .int .i64 a0_4, .int .i64 a0_5, .bool a0_6, .bool a0_7] 28 (0, 0)) (by (with_reducible repeat (first | refine blk_drewN ?_ _ | refine blk_drew ?_ | refine blk_alloc ?_ _)); exact BK159.out) hb); have n1_ := Aside0.mk (below_step (by repeat (first | (with_reducible first | exact HB.out | apply below_alloc | apply pw_below_drewN | apply below_drew1 | refine below_set ?_ GE159.out) | exact HB.out)) hb); clear BK159; clear HB; have BK159 := n0_; have HB := n1_; clear n0_ n1_; (try clear hb); (try clear hb2); (try clear hk); (try clear hi); have hcz8_0 : w7.cell? ⟨gb159, 0, none⟩ = some (.int .i64 a0_0) := (blk_cell BK159.out 0).trans rfl; have hcz8_1 : w7.cell? ⟨gb159, 1, none⟩ = some (.int .i64 a0_1) := (blk_cell BK159.out 1).trans rfl; have hcz8_2 : w7.cell? ⟨gb159, 2, none⟩ = some (.bool a0_2) := (blk_cell BK159.out 2).trans rfl; have hcz8_3 : w7.cell? ⟨gb159, 3, none⟩ = some (.bool a0_3) := (blk_cell BK159.out 3).trans rfl; have hcz8_4 : w7.cell? ⟨gb159, 4, none⟩ = some (.int .i64 a0_4) := (blk_cell BK159.out 4).trans rfl; have hcz8_5 : w7.cell? ⟨gb159, 5, none⟩ = some (.int .i64 a0_5) := (blk_cell BK159.out 5).trans rfl; have hcz8_6 : w7.cell? ⟨gb159, 6, none⟩ = some (.bool a0_6) := (blk_cell BK159.out 6).trans rfl; have hcz8_7 : w7.cell? ⟨gb159, 7, none⟩ = some (.bool a0_7) := (blk_cell BK159.out 7).trans rfl; have hfz8_0 := blk_frozen BK159.out 0; have hfz8_1 := blk_frozen BK159.out 1; have hfz8_2 := blk_frozen BK159.out 2; have hfz8_3 := blk_frozen BK159.out 3; have hfz8_4 := blk_frozen BK159.out 4; have hfz8_5 := blk_frozen BK159.out 5; have hfz8_6 := blk_frozen BK159.out 6; have hfz8_7 := blk_frozen BK159.out 7) | (go_at_call 81; (with_reducible refine (impl_GoodRef.calls a0_4 a0_5 a0_6 a0_7 t161 _ A4.out).mono ?_); rintro e w9 ⟨rfl, hb⟩; have n0_ := Aside0.mk (blk_below (g := gb159) (o := .cells #[.int .i64 a0_0, .int .i64 a0_1, .bool a0_2, .bool a0_3, .int .i64 a0_4, .int .i64 a0_5, .bool a0_6, .bool a0_7] 28 (0, 0)) (by (with_reducible repeat (first | refine blk_drewN ?_ _ | refine blk_drew ?_ | refine blk_alloc ?_ _)); exact BK159.out) hb); have n1_ := Aside0.mk (below_step (by repeat (first | (with_reducible first | exact HB.out | apply below_alloc | apply pw_below_drewN | apply below_drew1 | refine below_set ?_ GE159.out) | exact HB.out)) hb); clear BK159; clear HB; have BK159 := n0_; have HB := n1_; clear n0_ n1_; (try clear hb); (try clear hb2); (try clear hk); (try clear hi)))
    go_ret
    exact ⟨by first | rfl | (simp [errW_none, errW_some] <;> rfl) | (simp [*, errW_none, errW_some] <;> rfl), by repeat (first | (with_reducible first | exact HB.out | apply below_alloc | apply pw_below_drewN | apply below_drew1 | refine below_set ?_ GE159.out) | exact HB.out)⟩
  · replace c3 := Bool.eq_false_iff.mpr c3
    subst c3
    have H1 : (some false) = some r := by rw [if_neg (show ¬ (false = true) by decide)] at H; exact H
    clear H
    have H := H1
    clear H1
    obtain rfl := Option.some.inj H
    go_enter Try.func66, Try.ntmps66
    go_wp2_with (first | ((with_reducible refine gate_dst (N := 1) rfl ?_); refine box_event ?hg (N := 1) ?hd (cs := #[.int .i64 a0_0, .int .i64 a0_1, .bool a0_2, .bool a0_3, .int .i64 a0_4, .int .i64 a0_5, .bool a0_6, .bool a0_7]) (t := 28) ?hr ?_; (case hd => rfl); (case hg => rfl); (case hr => first | (go_simp; done) | (go_simp; rfl)); intro gb159 hg w10 hbox hb; have n0_ := Aside0.mk (below_step (by repeat (first | (with_reducible first | exact HB.out | apply below_alloc | apply pw_below_drewN | apply below_drew1) | exact HB.out)) hb); have n1_ := Aside0.mk (hbox); have n2_ := Aside0.mk ((by rw [hg]; exact (below_size (by repeat (first | (with_reducible first | exact HB.out | apply below_alloc | apply pw_below_drewN | apply below_drew1) | exact HB.out))) : w.heap.size ≤ gb159)); have n3_ := Aside0.mk ((by rw [hg]; exact (below_size (by repeat (first | (with_reducible first | exact HB.out | apply below_alloc | apply pw_below_drewN | apply below_drew1) | exact HB.out))) : w.heap.size ≤ gb159)); clear HB; have HB := n0_; have BK159 := n1_; have GW159 := n2_; have GE159 := n3_; clear n0_ n1_ n2_ n3_; clear hb hbox hg; have hcz11_0 : w10.cell? ⟨gb159, 0, none⟩ = some (.int .i64 a0_0) := (blk_cell BK159.out 0).trans rfl; have hcz11_1 : w10.cell? ⟨gb159, 1, none⟩ = some (.int .i64 a0_1) := (blk_cell BK159.out 1).trans rfl; have hcz11_2 : w10.cell? ⟨gb159, 2, none⟩ = some (.bool a0_2) := (blk_cell BK159.out 2).trans rfl; have hcz11_3 : w10.cell? ⟨gb159, 3, none⟩ = some (.bool a0_3) := (blk_cell BK159.out 3).trans rfl; have hcz11_4 : w10.cell? ⟨gb159, 4, none⟩ = some (.int .i64 a0_4) := (blk_cell BK159.out 4).trans rfl; have hcz11_5 : w10.cell? ⟨gb159, 5, none⟩ = some (.int .i64 a0_5) := (blk_cell BK159.out 5).trans rfl; have hcz11_6 : w10.cell? ⟨gb159, 6, none⟩ = some (.bool a0_6) := (blk_cell BK159.out 6).trans rfl; have hcz11_7 : w10.cell? ⟨gb159, 7, none⟩ = some (.bool a0_7) := (blk_cell BK159.out 7).trans rfl; have hfz11_0 := blk_frozen BK159.out 0; have hfz11_1 := blk_frozen BK159.out 1; have hfz11_2 := blk_frozen BK159.out 2; have hfz11_3 := blk_frozen BK159.out 3; have hfz11_4 := blk_frozen BK159.out 4; have hfz11_5 := blk_frozen BK159.out 5; have hfz11_6 := blk_frozen BK159.out 6; have hfz11_7 := blk_frozen BK159.out 7) | ((with_reducible refine gate_callee (f := 81) rfl ?_); refine goesL_ (some 5) rfl rfl Try.func81 (by kernel_rfl) rfl #[.agg #[.int .i64 a0_0, .int .i64 a0_1, .bool a0_2, .bool a0_3]] rfl (by (try simp only [List.map_toArray, List.map_cons, List.map_nil]); first | done | rfl | (simp only [List.length_drop, List.length_take]; rfl)) ?_; (with_reducible refine (impl_GoodRef.calls a0_0 a0_1 a0_2 a0_3 false _ A2.out).mono ?_); rintro e w12 ⟨rfl, hb⟩; refine ⟨_, rfl, ?_⟩; have n0_ := Aside0.mk (blk_below (g := gb159) (o := .cells #[.int .i64 a0_0, .int .i64 a0_1, .bool a0_2, .bool a0_3, .int .i64 a0_4, .int .i64 a0_5, .bool a0_6, .bool a0_7] 28 (0, 0)) (by (with_reducible repeat (first | refine blk_drewN ?_ _ | refine blk_drew ?_ | refine blk_alloc ?_ _)); exact BK159.out) hb); have n1_ := Aside0.mk (below_step (by repeat (first | (with_reducible first | exact HB.out | apply below_alloc | apply pw_below_drewN | apply below_drew1 | refine below_set ?_ GE159.out) | exact HB.out)) hb); clear BK159; clear HB; have BK159 := n0_; have HB := n1_; clear n0_ n1_; (try clear hb); (try clear hb2); (try clear hk); (try clear hi)))
    go_ret
    exact ⟨by first | rfl | (simp [errW_none, errW_some] <;> rfl) | (simp [*, errW_none, errW_some] <;> rfl), by repeat (first | (with_reducible first | exact HB.out | apply below_alloc | apply pw_below_drewN | apply below_drew1 | refine below_set ?_ GE159.out) | exact HB.out)⟩



/-! ### impl_Area_block: function 74 -/

def impl_Area_block.f (a0_0 : Int) (a0_1 : Int) (a0_2 : Bool) (a0_3 : Bool) (a0_4 : Int) (a0_5 : Int) (a0_6 : Bool) (a0_7 : Bool) : Option (Int × Int × Int × Int) := some (mn a0_0 a0_4, mn a0_1 a0_5, mx a0_0 a0_4, mx a0_1 a0_5)

set_option maxHeartbeats 8000000 in
set_option maxRecDepth 100000 in
theorem impl_Area_block.calls (a0_0 : Int) (a0_1 : Int) (a0_2 : Bool) (a0_3 : Bool) (a0_4 : Int) (a0_5 : Int) (a0_6 : Bool) (a0_7 : Bool) (r1 : Int) (r2 : Int) (r3 : Int) (r4 : Int) (w : World) (h : impl_Area_block.f a0_0 a0_1 a0_2 a0_3 a0_4 a0_5 a0_6 a0_7 = some (r1, r2, r3, r4)) :
    Calls Try.prog 74 #[.agg #[.int .i64 a0_0, .int .i64 a0_1, .bool a0_2, .bool a0_3, .int .i64 a0_4, .int .i64 a0_5, .bool a0_6, .bool a0_7]] w fun e w' => e = .returned (.agg #[.int .i64 r1, .int .i64 r2, .int .i64 r3, .int .i64 r4]) ∧ Below w.heap.size w w' := by
  have hu28 := Try.underlying28
  have hu111 := Try.underlying111
  have hu109 := Try.underlying109
  have HB := Aside0.mk (Below.refl w.heap.size w)
  have H : (some (mn a0_0 a0_4, mn a0_1 a0_5, mx a0_0 a0_4, mx a0_1 a0_5)) = some (r1, r2, r3, r4) := h
  clear h
  obtain ⟨ji2, hji2⟩ : ∃ j_ : Int, (mn a0_0 a0_4) = j_ := ⟨_, rfl⟩
  replace H : (some (ji2, mn a0_1 a0_5, mx a0_0 a0_4, mx a0_1 a0_5)) = some (r1, r2, r3, r4) := by first | (rw [hji2] at H; exact H) | (simp only [hji2] at H ⊢; exact H)
  have hji2_ : (if a0_4 < a0_0 then a0_4 else a0_0) = ji2 := hji2
  obtain ⟨ji3, hji3⟩ : ∃ j_ : Int, (mn a0_1 a0_5) = j_ := ⟨_, rfl⟩
  replace H : (some (ji2, ji3, mx a0_0 a0_4, mx a0_1 a0_5)) = some (r1, r2, r3, r4) := by first | (rw [hji3] at H; exact H) | (simp only [hji3] at H ⊢; exact H)
  have hji3_ : (if a0_5 < a0_1 then a0_5 else a0_1) = ji3 := hji3
  obtain ⟨ji4, hji4⟩ : ∃ j_ : Int, (mx a0_0 a0_4) = j_ := ⟨_, rfl⟩
  replace H : (some (ji2, ji3, ji4, mx a0_1 a0_5)) = some (r1, r2, r3, r4) := by first | (rw [hji4] at H; exact H) | (simp only [hji4] at H ⊢; exact H)
  have hji4_ : (if a0_0 < a0_4 then a0_4 else a0_0) = ji4 := hji4
  obtain ⟨ji5, hji5⟩ : ∃ j_ : Int, (mx a0_1 a0_5) = j_ := ⟨_, rfl⟩
  replace H : (some (ji2, ji3, ji4, ji5)) = some (r1, r2, r3, r4) := by first | (rw [hji5] at H; exact H) | (simp only [hji5] at H ⊢; exact H)
  have hji5_ : (if a0_1 < a0_5 then a0_5 else a0_1) = ji5 := hji5
  simp only [Option.some.injEq, Prod.mk.injEq] at H
  obtain ⟨rfl, rfl, rfl, rfl⟩ := H
  go_enter Try.func74, Try.ntmps74
  go_wp2_with (first | ((with_reducible refine gate_dst (N := 1) rfl ?_); refine box_event ?hg (N := 1) ?hd (cs := #[.int .i64 a0_0, .int .i64 a0_1, .bool a0_2, .bool a0_3, .int .i64 a0_4, .int .i64 a0_5, .bool a0_6, .bool a0_7]) (t := 28) ?hr ?_; (case hd => rfl); (case hg => rfl); (case hr => first | (go_simp; done) | (go_simp; rfl)); intro gb162 hg w6 hbox hb; have n0_ := Aside0.mk (below_step (by repeat (first | (with_reducible first | exact HB.out | apply below_alloc | apply pw_below_drewN | apply below_drew1) | exact HB.out)) hb); have n1_ := Aside0.mk (hbox); have n2_ := Aside0.mk ((by rw [hg]; exact (below_size (by repeat (first | (with_reducible first | exact HB.out | apply below_alloc | apply pw_below_drewN | apply below_drew1) | exact HB.out))) : w.heap.size ≤ gb162)); have n3_ := Aside0.mk ((by rw [hg]; exact (below_size (by repeat (first | (with_reducible first | exact HB.out | apply below_alloc | apply pw_below_drewN | apply below_drew1) | exact HB.out))) : w.heap.size ≤ gb162)); clear HB; have HB := n0_; have BK162 := n1_; have GW162 := n2_; have GE162 := n3_; clear n0_ n1_ n2_ n3_; clear hb hbox hg) | ((with_reducible refine gate_dst (N := 2) rfl ?_); refine box_event ?hg (N := 2) ?hd (cs := #[.int .i64 0, .int .i64 0, .int .i64 0, .int .i64 0]) (t := 111) ?hr ?_; (case hd => rfl); (case hg => rfl); (case hr => first | (go_simp; done) | (go_simp; rfl)); intro gb163 hg w7 hbox hb; have n0_ := Aside0.mk (blk_below (g := gb162) (o := .cells #[.int .i64 a0_0, .int .i64 a0_1, .bool a0_2, .bool a0_3, .int .i64 a0_4, .int .i64 a0_5, .bool a0_6, .bool a0_7] 28 (0, 0)) (by (with_reducible repeat (first | refine blk_drewN ?_ _ | refine blk_drew ?_ | refine blk_alloc ?_ _)); exact BK162.out) hb); have n1_ := Aside0.mk (below_step (by repeat (first | (with_reducible first | exact HB.out | apply below_alloc | apply pw_below_drewN | apply below_drew1 | refine below_set ?_ GE162.out) | exact HB.out)) hb); have n2_ := Aside0.mk (hbox); have n3_ := Aside0.mk ((by rw [hg]; exact (below_size (by repeat (first | (with_reducible first | exact HB.out | apply below_alloc | apply pw_below_drewN | apply below_drew1 | refine below_set ?_ GE162.out) | exact HB.out))) : w.heap.size ≤ gb163)); have n4_ := Aside0.mk ((by rw [hg]; exact (below_size (by repeat (first | (with_reducible first | exact HB.out | apply below_alloc | apply pw_below_drewN | apply below_drew1 | refine below_set ?_ GE162.out) | exact HB.out))) : w.heap.size ≤ gb163)); have n5_ := Aside0.mk ((by rw [hg]; exact Nat.ne_of_lt (blk_lt (g := gb162) (o := .cells #[.int .i64 a0_0, .int .i64 a0_1, .bool a0_2, .bool a0_3, .int .i64 a0_4, .int .i64 a0_5, .bool a0_6, .bool a0_7] 28 (0, 0)) (by (with_reducible repeat (first | refine blk_drewN ?_ _ | refine blk_drew ?_ | refine blk_alloc ?_ _)); exact BK162.out)) : gb162 ≠ gb163)); have n6_ := Aside0.mk ((by rw [hg]; exact Nat.ne_of_gt (blk_lt (g := gb162) (o := .cells #[.int .i64 a0_0, .int .i64 a0_1, .bool a0_2, .bool a0_3, .int .i64 a0_4, .int .i64 a0_5, .bool a0_6, .bool a0_7] 28 (0, 0)) (by (with_reducible repeat (first | refine blk_drewN ?_ _ | refine blk_drew ?_ | refine blk_alloc ?_ _)); exact BK162.out)) : gb163 ≠ gb162)); clear BK162; clear HB; have BK162 := n0_; have HB := n1_; have BK163 := n2_; have GW163 := n3_; have GE163 := n4_; have NB162_163 := n5_; have NB163_162 := n6_; clear n0_ n1_ n2_ n3_ n4_ n5_ n6_; clear hb hbox hg; have hnb8 := NB162_163.out; have hnc8 := NB163_162.out; have hcz9_0 : w7.cell? ⟨gb162, 0, none⟩ = some (.int .i64 a0_0) := (blk_cell BK162.out 0).trans rfl; have hcz9_1 : w7.cell? ⟨gb162, 1, none⟩ = some (.int .i64 a0_1) := (blk_cell BK162.out 1).trans rfl; have hcz9_2 : w7.cell? ⟨gb162, 2, none⟩ = some (.bool a0_2) := (blk_cell BK162.out 2).trans rfl; have hcz9_3 : w7.cell? ⟨gb162, 3, none⟩ = some (.bool a0_3) := (blk_cell BK162.out 3).trans rfl; have hcz9_4 : w7.cell? ⟨gb162, 4, none⟩ = some (.int .i64 a0_4) := (blk_cell BK162.out 4).trans rfl; have hcz9_5 : w7.cell? ⟨gb162, 5, none⟩ = some (.int .i64 a0_5) := (blk_cell BK162.out 5).trans rfl; have hcz9_6 : w7.cell? ⟨gb162, 6, none⟩ = some (.bool a0_6) := (blk_cell BK162.out 6).trans rfl; have hcz9_7 : w7.cell? ⟨gb162, 7, none⟩ = some (.bool a0_7) := (blk_cell BK162.out 7).trans rfl; have hfz9_0 := blk_frozen BK162.out 0; have hfz9_1 := blk_frozen BK162.out 1; have hfz9_2 := blk_frozen BK162.out 2; have hfz9_3 := blk_frozen BK162.out 3; have hfz9_4 := blk_frozen BK162.out 4; have hfz9_5 := blk_frozen BK162.out 5; have hfz9_6 := blk_frozen BK162.out 6; have hfz9_7 := blk_frozen BK162.out 7; have hcz10_0 : w7.cell? ⟨gb163, 0, none⟩ = some (.int .i64 0) := (blk_cell BK163.out 0).trans rfl; have hcz10_1 : w7.cell? ⟨gb163, 1, none⟩ = some (.int .i64 0) := (blk_cell BK163.out 1).trans rfl; have hcz10_2 : w7.cell? ⟨gb163, 2, none⟩ = some (.int .i64 0) := (blk_cell BK163.out 2).trans rfl; have hcz10_3 : w7.cell? ⟨gb163, 3, none⟩ = some (.int .i64 0) := (blk_cell BK163.out 3).trans rfl; have hfz10_0 := blk_frozen BK163.out 0; have hfz10_1 := blk_frozen BK163.out 1; have hfz10_2 := blk_frozen BK163.out 2; have hfz10_3 := blk_frozen BK163.out 3))
  refine bodyPost_ret (results_cell_row rfl _ _ gb163 111 #[.int .i64 ji2, .int .i64 ji3, .int .i64 ji4, .int .i64 ji5] (0, 0) _ rfl (by (with_reducible repeat (first | refine blk_drewN ?_ _ | refine blk_drew ?_ | refine blk_alloc ?_ _)); refine blk_put (cs := #[.int .i64 ji2, .int .i64 ji3, .int .i64 ji4, .int .i64 0]) ?_ 3 _ rfl; (with_reducible repeat (first | refine blk_drewN ?_ _ | refine blk_drew ?_ | refine blk_alloc ?_ _)); refine blk_put (cs := #[.int .i64 ji2, .int .i64 ji3, .int .i64 0, .int .i64 0]) ?_ 2 _ rfl; (with_reducible repeat (first | refine blk_drewN ?_ _ | refine blk_drew ?_ | refine blk_alloc ?_ _)); refine blk_put (cs := #[.int .i64 ji2, .int .i64 0, .int .i64 0, .int .i64 0]) ?_ 1 _ rfl; (with_reducible repeat (first | refine blk_drewN ?_ _ | refine blk_drew ?_ | refine blk_alloc ?_ _)); refine blk_put (cs := #[.int .i64 0, .int .i64 0, .int .i64 0, .int .i64 0]) ?_ 0 _ rfl; (with_reducible repeat (first | refine blk_drewN ?_ _ | refine blk_drew ?_ | refine blk_alloc ?_ _)); exact BK163.out) Try.underlying111 rfl (by kernel_rfl)) rfl ?_
  exact ⟨by first | rfl | (simp [errW_none, errW_some] <;> rfl) | (simp only [← hji2, ← hji3, ← hji4, ← hji5]; first | rfl | (simp [errW_none, errW_some] <;> rfl)) | (simp [*, errW_none, errW_some] <;> rfl), by repeat (first | (with_reducible first | exact HB.out | apply below_alloc | apply pw_below_drewN | apply below_drew1 | refine below_set ?_ GE162.out | refine below_set ?_ GE163.out) | exact HB.out)⟩



/-! ### impl_Turn_most: function 127 -/

def impl_Turn_most.f (a0_0 : Int) (a0_1 : Int) (a0_2 : Int) (a0_3 : Bool) : Option (Int) := if a0_0 = 1 then (some 1000) else (some 200)

set_option maxHeartbeats 8000000 in
set_option maxRecDepth 100000 in
theorem impl_Turn_most.calls (a0_0 : Int) (a0_1 : Int) (a0_2 : Int) (a0_3 : Bool) (r : Int) (w : World) (h : impl_Turn_most.f a0_0 a0_1 a0_2 a0_3 = some r) :
    Calls Try.prog 127 #[.agg #[.int .i64 a0_0, .int .i64 a0_1, .int .i64 a0_2, .bool a0_3]] w fun e w' => e = .returned (.int .i64 r) ∧ Below w.heap.size w w' := by
  have hu45 := Try.underlying45
  have HB := Aside0.mk (Below.refl w.heap.size w)
  have H : (if a0_0 = 1 then (some 1000) else (some 200)) = some r := h
  clear h
  by_cases c2 : a0_0 = 1
  · rw [if_pos c2] at H
    have c2b0 : (a0_0 == 1) = true := beq_iff_eq.mpr c2
    have c2b1 : (a0_0 != 1) = false := bne_eq_false_iff_eq.mpr c2
    clear c2
    obtain rfl := Option.some.inj H
    go_enter Try.func127, Try.ntmps127
    go_wp2_with (first | ((with_reducible refine gate_dst (N := 1) rfl ?_); refine box_event ?hg (N := 1) ?hd (cs := #[.int .i64 a0_0, .int .i64 a0_1, .int .i64 a0_2, .bool a0_3]) (t := 45) ?hr ?_; (case hd => rfl); (case hg => rfl); (case hr => first | (go_simp; done) | (go_simp; rfl)); intro gb164 hg w3 hbox hb; have n0_ := Aside0.mk (below_step (by repeat (first | (with_reducible first | exact HB.out | apply below_alloc | apply pw_below_drewN | apply below_drew1) | exact HB.out)) hb); have n1_ := Aside0.mk (hbox); have n2_ := Aside0.mk ((by rw [hg]; exact (below_size (by repeat (first | (with_reducible first | exact HB.out | apply below_alloc | apply pw_below_drewN | apply below_drew1) | exact HB.out))) : w.heap.size ≤ gb164)); have n3_ := Aside0.mk ((by rw [hg]; exact (below_size (by repeat (first | (with_reducible first | exact HB.out | apply below_alloc | apply pw_below_drewN | apply below_drew1) | exact HB.out))) : w.heap.size ≤ gb164)); clear HB; have HB := n0_; have BK164 := n1_; have GW164 := n2_; have GE164 := n3_; clear n0_ n1_ n2_ n3_; clear hb hbox hg; have hcz4_0 : w3.cell? ⟨gb164, 0, none⟩ = some (.int .i64 a0_0) := (blk_cell BK164.out 0).trans rfl; have hcz4_1 : w3.cell? ⟨gb164, 1, none⟩ = some (.int .i64 a0_1) := (blk_cell BK164.out 1).trans rfl; have hcz4_2 : w3.cell? ⟨gb164, 2, none⟩ = some (.int .i64 a0_2) := (blk_cell BK164.out 2).trans rfl; have hcz4_3 : w3.cell? ⟨gb164, 3, none⟩ = some (.bool a0_3) := (blk_cell BK164.out 3).trans rfl; have hfz4_0 := blk_frozen BK164.out 0; have hfz4_1 := blk_frozen BK164.out 1; have hfz4_2 := blk_frozen BK164.out 2; have hfz4_3 := blk_frozen BK164.out 3))
    go_ret
    exact ⟨by first | rfl | (simp [errW_none, errW_some] <;> rfl) | (simp [*, errW_none, errW_some] <;> rfl), by repeat (first | (with_reducible first | exact HB.out | apply below_alloc | apply pw_below_drewN | apply below_drew1 | refine below_set ?_ GE164.out) | exact HB.out)⟩
  · rw [if_neg c2] at H
    have c2b0 : (a0_0 == 1) = false := beq_eq_false_iff_ne.mpr c2
    have c2b1 : (a0_0 != 1) = true := bne_iff_ne.mpr c2
    obtain rfl := Option.some.inj H
    go_enter Try.func127, Try.ntmps127
    go_wp2_with (first | ((with_reducible refine gate_dst (N := 1) rfl ?_); refine box_event ?hg (N := 1) ?hd (cs := #[.int .i64 a0_0, .int .i64 a0_1, .int .i64 a0_2, .bool a0_3]) (t := 45) ?hr ?_; (case hd => rfl); (case hg => rfl); (case hr => first | (go_simp; done) | (go_simp; rfl)); intro gb164 hg w5 hbox hb; have n0_ := Aside0.mk (below_step (by repeat (first | (with_reducible first | exact HB.out | apply below_alloc | apply pw_below_drewN | apply below_drew1) | exact HB.out)) hb); have n1_ := Aside0.mk (hbox); have n2_ := Aside0.mk ((by rw [hg]; exact (below_size (by repeat (first | (with_reducible first | exact HB.out | apply below_alloc | apply pw_below_drewN | apply below_drew1) | exact HB.out))) : w.heap.size ≤ gb164)); have n3_ := Aside0.mk ((by rw [hg]; exact (below_size (by repeat (first | (with_reducible first | exact HB.out | apply below_alloc | apply pw_below_drewN | apply below_drew1) | exact HB.out))) : w.heap.size ≤ gb164)); clear HB; have HB := n0_; have BK164 := n1_; have GW164 := n2_; have GE164 := n3_; clear n0_ n1_ n2_ n3_; clear hb hbox hg; have hcz6_0 : w5.cell? ⟨gb164, 0, none⟩ = some (.int .i64 a0_0) := (blk_cell BK164.out 0).trans rfl; have hcz6_1 : w5.cell? ⟨gb164, 1, none⟩ = some (.int .i64 a0_1) := (blk_cell BK164.out 1).trans rfl; have hcz6_2 : w5.cell? ⟨gb164, 2, none⟩ = some (.int .i64 a0_2) := (blk_cell BK164.out 2).trans rfl; have hcz6_3 : w5.cell? ⟨gb164, 3, none⟩ = some (.bool a0_3) := (blk_cell BK164.out 3).trans rfl; have hfz6_0 := blk_frozen BK164.out 0; have hfz6_1 := blk_frozen BK164.out 1; have hfz6_2 := blk_frozen BK164.out 2; have hfz6_3 := blk_frozen BK164.out 3))
    go_ret
    exact ⟨by first | rfl | (simp [errW_none, errW_some] <;> rfl) | (simp [*, errW_none, errW_some] <;> rfl), by repeat (first | (with_reducible first | exact HB.out | apply below_alloc | apply pw_below_drewN | apply below_drew1 | refine below_set ?_ GE164.out) | exact HB.out)⟩



/-! ### impl_GoodTurn: function 80 -/

def impl_GoodTurn.f (a0_0 : Int) (a0_1 : Int) (a0_2 : Int) (a0_3 : Bool) : Option (Bool) := if a0_0 = 1 then (if a0_1 < 1 then (some false) else ((impl_Turn_most.f a0_0 a0_1 a0_2 a0_3).bind fun t166 => (if a0_1 > t166 then (some false) else (if a0_2 < 1 then (some false) else (if a0_2 > 100 then (some false) else (if a0_3 = true then ((impl_Turn_most.f a0_0 a0_1 a0_2 a0_3).bind fun t167 => (some (decide ((wrap64 ((wrap64 (a0_1 + a0_2)) - 1)) ≤ t167)))) else (some true))))))) else (if a0_0 = 2 then (if a0_1 < 1 then (some false) else ((impl_Turn_most.f a0_0 a0_1 a0_2 a0_3).bind fun t168 => (if a0_1 > t168 then (some false) else (if a0_2 < 1 then (some false) else (if a0_2 > 100 then (some false) else (if a0_3 = true then ((impl_Turn_most.f a0_0 a0_1 a0_2 a0_3).bind fun t169 => (some (decide ((wrap64 ((wrap64 (a0_1 + a0_2)) - 1)) ≤ t169)))) else (some true))))))) else (some false))

def impl_GoodTurn.T1 : Bool × List (List Nat × List Nat) := (true, [([], []), ([0], [0]), ([1], [1]), ([2], [2]), ([3], [3]), ([4, 3], [3, 4]), ([5, 3], [3, 5]), ([3, 6], [3, 6]), ([7, 3], [7]), ([8], [8]), ([9, 8], [8, 9]), ([10, 8], [8, 10]), ([8, 11], [8, 11]), ([12, 8], [12]), ([13], [13]), ([14, 13], [13, 14]), ([13], [13]), ([16, 13, 13], [13, 16]), ([15, 17, 13], [13, 15, 17]), ([13, 18], [13, 18]), ([19, 17], [19]), ([20], [20]), ([21, 20], [20, 21]), ([22, 20], [20, 22]), ([20, 23], [20, 23]), ([24, 20], [24]), ([25], [25]), ([26, 25], [25, 26]), ([27, 25], [25, 27]), ([25, 28], [25, 28])])

def impl_GoodTurn.B1 : List Nat := [0, 1, 3, 7, 15, 31, 63, 127, 255, 511, 1023, 2047, 4095, 8191, 16383, 32767, 16383, 81919, 262143, 524287, 1048575, 2097151, 4194303, 8388607, 16777215, 33554431, 67108863, 134217727, 268435455, 536870911]

theorem impl_GoodTurn.tab1 : rtab .any (opsOf Try.f80 1) = impl_GoodTurn.T1 := by kernel_rfl

theorem impl_GoodTurn.bits1 : waitsOk impl_GoodTurn.T1.2 impl_GoodTurn.B1 = true := by kernel_rfl

def impl_GoodTurn.T3 : Bool × List (List Nat × List Nat) := (true, [([], []), ([0], [0]), ([1], [1]), ([2], [2]), ([3], [3]), ([4, 3], [3, 4]), ([3], [3]), ([6, 3], [3, 6]), ([5, 7, 3], [3, 5, 7]), ([8, 3], [3, 8]), ([3], [3]), ([10, 3, 3], [3, 10]), ([9, 11, 3], [3, 9, 11]), ([3, 12], [3, 12]), ([13, 11, 0, 1, 2, 3, 4, 5, 6, 7, 8, 9, 10, 11, 12, 13], [13])])

def impl_GoodTurn.B3 : List Nat := [0, 1, 3, 7, 15, 31, 15, 79, 255, 511, 15, 1039, 4095, 8191, 16383]

theorem impl_GoodTurn.tab3 : rtab .any (opsOf Try.f80 3) = impl_GoodTurn.T3 := by kernel_rfl

theorem impl_GoodTurn.bits3 : waitsOk impl_GoodTurn.T3.2 impl_GoodTurn.B3 = true := by kernel_rfl

end Go.Proofs.Ytaclplimbnihkaa.PFnExactTurnArea
