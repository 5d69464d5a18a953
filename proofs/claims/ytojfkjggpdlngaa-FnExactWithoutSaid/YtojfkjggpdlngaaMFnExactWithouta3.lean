/- Functions of the program as Lean functions, and proofs that the Go code comes to their answers: for the law FnExactWithout; made out of the print by a program of mine (compact.py). No conditions but each theorem's own. -/
import Derived.Test.YtojfkjggpdlngaaMFnExactWithouta0
import Derived.Test.YtojfkjggpdlngaaMFnExactWithouta2
namespace Go.Proofs.Ytojfkjggpdlngaa.PFnExactWithout
open Go.RowKit Go.Proofs.YtojfkjggpdlngaaW.PrintWords Go.Proofs.YtojfkjggpdlngaaW.PrintLast Go.Proofs.YtojfkjggpdlngaaW.PrintMore
attribute [local go_sem] max2_int min2_int max_two min_two max_three min_three max_four min_four   -- for this text's walks alone
set_option linter.unusedVariables false
set_option linter.unusedSimpArgs false

theorem put8 {w : World} {p : Nat} {t : TypeId} {c0 c1 c2 c3 c4 c5 c6 c7 u0 u1 u2 u3 u4 u5 u6 u7 : Value} (h : w.heap[p]? = some (.cells #[c0, c1, c2, c3, c4, c5, c6, c7] t (0, 0))) :
    (((((((((w.setCell ⟨p, 0, none⟩ u0).setCell ⟨p, 1, none⟩ u1).setCell ⟨p, 2, none⟩ u2).setCell ⟨p, 3, none⟩ u3).setCell ⟨p, 4, none⟩ u4).setCell ⟨p, 5, none⟩ u5).setCell ⟨p, 6, none⟩ u6).setCell ⟨p, 7, none⟩ u7)).heap[p]? = some (.cells #[u0, u1, u2, u3, u4, u5, u6, u7] t (0, 0)) := by
  have h1 := blk_put h 0 u0 (cs' := #[u0, c1, c2, c3, c4, c5, c6, c7]) rfl
  have h2 := blk_put h1 1 u1 (cs' := #[u0, u1, c2, c3, c4, c5, c6, c7]) rfl
  have h3 := blk_put h2 2 u2 (cs' := #[u0, u1, u2, c3, c4, c5, c6, c7]) rfl
  have h4 := blk_put h3 3 u3 (cs' := #[u0, u1, u2, u3, c4, c5, c6, c7]) rfl
  have h5 := blk_put h4 4 u4 (cs' := #[u0, u1, u2, u3, u4, c5, c6, c7]) rfl
  have h6 := blk_put h5 5 u5 (cs' := #[u0, u1, u2, u3, u4, u5, c6, c7]) rfl
  have h7 := blk_put h6 6 u6 (cs' := #[u0, u1, u2, u3, u4, u5, u6, c7]) rfl
  have h8 := blk_put h7 7 u7 (cs' := #[u0, u1, u2, u3, u4, u5, u6, u7]) rfl
  exact h8
theorem far8 {w : World} {g p : Nat} {t : TypeId} {cs : Array Value} {u0 u1 u2 u3 u4 u5 u6 u7 : Value} (h : w.heap[g]? = some (.cells cs t (0, 0))) (hne : g ≠ p) :
    (((((((((w.setCell ⟨p, 0, none⟩ u0).setCell ⟨p, 1, none⟩ u1).setCell ⟨p, 2, none⟩ u2).setCell ⟨p, 3, none⟩ u3).setCell ⟨p, 4, none⟩ u4).setCell ⟨p, 5, none⟩ u5).setCell ⟨p, 6, none⟩ u6).setCell ⟨p, 7, none⟩ u7)).heap[g]? = some (.cells cs t (0, 0)) := (blk_far (blk_far (blk_far (blk_far (blk_far (blk_far (blk_far (blk_far h (p := ⟨p, 0, none⟩) hne _) (p := ⟨p, 1, none⟩) hne _) (p := ⟨p, 2, none⟩) hne _) (p := ⟨p, 3, none⟩) hne _) (p := ⟨p, 4, none⟩) hne _) (p := ⟨p, 5, none⟩) hne _) (p := ⟨p, 6, none⟩) hne _) (p := ⟨p, 7, none⟩) hne _)
theorem below_put8 {B : Nat} {a w : World} {p : Nat} {u0 u1 u2 u3 u4 u5 u6 u7 : Value} (h : Below B a w) (hg : B ≤ p) : Below B a (((((((((w.setCell ⟨p, 0, none⟩ u0).setCell ⟨p, 1, none⟩ u1).setCell ⟨p, 2, none⟩ u2).setCell ⟨p, 3, none⟩ u3).setCell ⟨p, 4, none⟩ u4).setCell ⟨p, 5, none⟩ u5).setCell ⟨p, 6, none⟩ u6).setCell ⟨p, 7, none⟩ u7)) := ((((((((((((((((h).setCell (p := ⟨p, 0, none⟩) hg _)).setCell (p := ⟨p, 1, none⟩) hg _)).setCell (p := ⟨p, 2, none⟩) hg _)).setCell (p := ⟨p, 3, none⟩) hg _)).setCell (p := ⟨p, 4, none⟩) hg _)).setCell (p := ⟨p, 5, none⟩) hg _)).setCell (p := ⟨p, 6, none⟩) hg _)).setCell (p := ⟨p, 7, none⟩) hg _)
theorem cell_far8 {w : World} {b j p : Nat} {v : Value} {u0 u1 u2 u3 u4 u5 u6 u7 : Value} (h : w.cell? ⟨b, j, none⟩ = some v) (hne : b ≠ p) :
    (((((((((w.setCell ⟨p, 0, none⟩ u0).setCell ⟨p, 1, none⟩ u1).setCell ⟨p, 2, none⟩ u2).setCell ⟨p, 3, none⟩ u3).setCell ⟨p, 4, none⟩ u4).setCell ⟨p, 5, none⟩ u5).setCell ⟨p, 6, none⟩ u6).setCell ⟨p, 7, none⟩ u7)).cell? ⟨b, j, none⟩ = some v := ((cell_far (a := ⟨b, j, none⟩) (p := ⟨p, 7, none⟩) hne _).trans ((cell_far (a := ⟨b, j, none⟩) (p := ⟨p, 6, none⟩) hne _).trans ((cell_far (a := ⟨b, j, none⟩) (p := ⟨p, 5, none⟩) hne _).trans ((cell_far (a := ⟨b, j, none⟩) (p := ⟨p, 4, none⟩) hne _).trans ((cell_far (a := ⟨b, j, none⟩) (p := ⟨p, 3, none⟩) hne _).trans ((cell_far (a := ⟨b, j, none⟩) (p := ⟨p, 2, none⟩) hne _).trans ((cell_far (a := ⟨b, j, none⟩) (p := ⟨p, 1, none⟩) hne _).trans ((cell_far (a := ⟨b, j, none⟩) (p := ⟨p, 0, none⟩) hne _).trans h))))))))
theorem cell_drew {W : World} {b i : Nat} {v : Value} (h : W.cell? ⟨b, i, none⟩ = some v) : W.drew.cell? ⟨b, i, none⟩ = some v := h
theorem alloc_drew {W : World} {o : Obj} {b i : Nat} {v : Value} (h : W.drew.cell? ⟨b, i, none⟩ = some v) : (W.alloc o).drew.cell? ⟨b, i, none⟩ = some v :=
  pw_cell_below (below_alloc (Below.refl W.heap.size W) o) (show W.cell? ⟨b, i, none⟩ = some v from h)
theorem alloc_swap {W : World} {o o' : Obj} {b i : Nat} {v : Value} (h : (W.alloc o).cell? ⟨b, i, none⟩ = some v) (hlt : b < W.heap.size) : (W.alloc o').cell? ⟨b, i, none⟩ = some v :=
  ((below_alloc (Below.refl W.heap.size W) o').cell (p := ⟨b, i, none⟩) hlt).trans (((below_alloc (Below.refl W.heap.size W) o).cell (p := ⟨b, i, none⟩) hlt).symm.trans h)
set_option maxHeartbeats 8000000 in
set_option maxRecDepth 100000 in
theorem spec_Meet.calls (k : Nat) (a0_0 : Int) (a0_1 : Int) (a0_2 : Bool) (a0_3 : Bool) (a0_4 : Int) (a0_5 : Int) (a0_6 : Bool) (a0_7 : Bool) (a1_0 : Int) (a1_1 : Int) (a1_2 : Bool) (a1_3 : Bool) (a1_4 : Int) (a1_5 : Int) (a1_6 : Bool) (a1_7 : Bool) (r1 : Int) (r2 : Int) (r3 : Bool) (r4 : Bool) (r5 : Int) (r6 : Int) (r7 : Bool) (r8 : Bool) (r9 : Bool) (w : World) (h : spec_Meet.f k a0_0 a0_1 a0_2 a0_3 a0_4 a0_5 a0_6 a0_7 a1_0 a1_1 a1_2 a1_3 a1_4 a1_5 a1_6 a1_7 = some (r1, r2, r3, r4, r5, r6, r7, r8, r9)) :
    Calls Try.prog 20 #[.agg #[.int .i64 a0_0, .int .i64 a0_1, .bool a0_2, .bool a0_3, .int .i64 a0_4, .int .i64 a0_5, .bool a0_6, .bool a0_7], .agg #[.int .i64 a1_0, .int .i64 a1_1, .bool a1_2, .bool a1_3, .int .i64 a1_4, .int .i64 a1_5, .bool a1_6, .bool a1_7]] w fun e w' => e = .returned (.tuple #[.agg #[.int .i64 r1, .int .i64 r2, .bool r3, .bool r4, .int .i64 r5, .int .i64 r6, .bool r7, .bool r8], .bool r9]) ∧ Below w.heap.size w w' := by
  have hb0 : Below w.heap.size w (((w.alloc (.cells #[.int .i64 a0_0, .int .i64 a0_1, .bool a0_2, .bool a0_3, .int .i64 a0_4, .int .i64 a0_5, .bool a0_6, .bool a0_7] 33)).alloc (.cells #[.int .i64 a1_0, .int .i64 a1_1, .bool a1_2, .bool a1_3, .int .i64 a1_4, .int .i64 a1_5, .bool a1_6, .bool a1_7] 33)).alloc (.cells #[.int .i64 0, .int .i64 0, .bool false, .bool false, .int .i64 0, .int .i64 0, .bool false, .bool false] 33)) := below_alloc (below_alloc (below_alloc (Below.refl _ _) _) _) _
  have hk0 := blk_alloc (blk_alloc (blk_new w (.cells #[.int .i64 a0_0, .int .i64 a0_1, .bool a0_2, .bool a0_3, .int .i64 a0_4, .int .i64 a0_5, .bool a0_6, .bool a0_7] 33)) (.cells #[.int .i64 a1_0, .int .i64 a1_1, .bool a1_2, .bool a1_3, .int .i64 a1_4, .int .i64 a1_5, .bool a1_6, .bool a1_7] 33)) (.cells #[.int .i64 0, .int .i64 0, .bool false, .bool false, .int .i64 0, .int .i64 0, .bool false, .bool false] 33)
  have hk1 := blk_alloc (blk_new (w.alloc (.cells #[.int .i64 a0_0, .int .i64 a0_1, .bool a0_2, .bool a0_3, .int .i64 a0_4, .int .i64 a0_5, .bool a0_6, .bool a0_7] 33)) (.cells #[.int .i64 a1_0, .int .i64 a1_1, .bool a1_2, .bool a1_3, .int .i64 a1_4, .int .i64 a1_5, .bool a1_6, .bool a1_7] 33)) (.cells #[.int .i64 0, .int .i64 0, .bool false, .bool false, .int .i64 0, .int .i64 0, .bool false, .bool false] 33)
  have hk2 := blk_new ((w.alloc (.cells #[.int .i64 a0_0, .int .i64 a0_1, .bool a0_2, .bool a0_3, .int .i64 a0_4, .int .i64 a0_5, .bool a0_6, .bool a0_7] 33)).alloc (.cells #[.int .i64 a1_0, .int .i64 a1_1, .bool a1_2, .bool a1_3, .int .i64 a1_4, .int .i64 a1_5, .bool a1_6, .bool a1_7] 33)) (.cells #[.int .i64 0, .int .i64 0, .bool false, .bool false, .int .i64 0, .int .i64 0, .bool false, .bool false] 33)
  simp only [World.size_alloc, Nat.add_assoc, Nat.reduceAdd] at hk1 hk2
  have HW := Lib.hid hb0; have HK0 := Lib.hid hk0; have HK1 := Lib.hid hk1; have HK2 := Lib.hid hk2; clear hb0 hk0 hk1 hk2
  unfold spec_Meet.f at h
  replace h := Option.bind_eq_some_iff.mp h
  obtain ⟨g, hg, h⟩ := h
  have HG := Lib.hid hg; clear hg
  cases g
  · cases k with
    | zero => simp [spec_Meet.j0] at h
    | succ k =>
      obtain ⟨rfl, rfl, rfl, rfl, rfl, rfl, rfl, rfl, rfl⟩ : 0 = r1 ∧ 0 = r2 ∧ false = r3 ∧ false = r4 ∧ 0 = r5 ∧ 0 = r6 ∧ false = r7 ∧ false = r8 ∧ false = r9 := by simpa [spec_Meet.j0] using h
      clear h
      go_enter Try.func20, Try.ntmps20
      go_wp2_with fail
      refine (spec_GoodArea.calls _ _ _ _ _ _ _ _ _ _ HG.out).mono ?_; rintro e w1 ⟨rfl, hd⟩
      have HK0n := Lib.hid (blk_below HK0.out hd); clear HK0; have HK0 := HK0n; clear HK0n
      have HK1n := Lib.hid (blk_below HK1.out hd); clear HK1; have HK1 := HK1n; clear HK1n
      have HK2n := Lib.hid (blk_below HK2.out hd); clear HK2; have HK2 := HK2n; clear HK2n
      have HWn := Lib.hid (below_step HW.out hd); clear HW; have HW := HWn; clear HWn; clear hd
      have q0 := blk_cell HK2.out 0; have q1 := blk_cell HK2.out 1; have q2 := blk_cell HK2.out 2; have q3 := blk_cell HK2.out 3; have q4 := blk_cell HK2.out 4; have q5 := blk_cell HK2.out 5; have q6 := blk_cell HK2.out 6; have q7 := blk_cell HK2.out 7
      simp only [List.getElem?_toArray, List.getElem?_cons_zero, List.getElem?_cons_succ] at q0 q1 q2 q3 q4 q5 q6 q7
      have fq0 := blk_frozen HK2.out 0; have fq1 := blk_frozen HK2.out 1; have fq2 := blk_frozen HK2.out 2; have fq3 := blk_frozen HK2.out 3; have fq4 := blk_frozen HK2.out 4; have fq5 := blk_frozen HK2.out 5; have fq6 := blk_frozen HK2.out 6; have fq7 := blk_frozen HK2.out 7
      go_wp2_with fail
      (try simp only [Exit.inBlock, Exit.then]); refine bodyPost_ret (results_ct rfl _ _ (w.heap.size + 2) 33 _ (0, 0) _ rfl (put8 HK2.out) Try.underlying33 rfl (by kernel_rfl)) rfl ?_
      exact ⟨rfl, below_put8 HW.out (by omega)⟩
  rw [if_pos rfl] at h
  replace h := Option.bind_eq_some_iff.mp h
  obtain ⟨g2, hg2, h⟩ := h
  have HG2 := Lib.hid hg2; clear hg2
  cases k with
  | zero => cases g2 <;> simp [spec_Meet.j0] at h
  | succ k =>
    cases g2
    · obtain ⟨rfl, rfl, rfl, rfl, rfl, rfl, rfl, rfl, rfl⟩ : 0 = r1 ∧ 0 = r2 ∧ false = r3 ∧ false = r4 ∧ 0 = r5 ∧ 0 = r6 ∧ false = r7 ∧ false = r8 ∧ false = r9 := by simpa [spec_Meet.j0] using h
      clear h
      go_enter Try.func20, Try.ntmps20
      go_wp2_with fail
      refine (spec_GoodArea.calls _ _ _ _ _ _ _ _ _ _ HG.out).mono ?_; rintro e w1 ⟨rfl, hd⟩
      have HK0n := Lib.hid (blk_below HK0.out hd); clear HK0; have HK0 := HK0n; clear HK0n
      have HK1n := Lib.hid (blk_below HK1.out hd); clear HK1; have HK1 := HK1n; clear HK1n
      have HK2n := Lib.hid (blk_below HK2.out hd); clear HK2; have HK2 := HK2n; clear HK2n
      have HWn := Lib.hid (below_step HW.out hd); clear HW; have HW := HWn; clear HWn; clear hd
      have y0 := blk_cell HK1.out 0; have y1 := blk_cell HK1.out 1; have y2 := blk_cell HK1.out 2; have y3 := blk_cell HK1.out 3; have y4 := blk_cell HK1.out 4; have y5 := blk_cell HK1.out 5; have y6 := blk_cell HK1.out 6; have y7 := blk_cell HK1.out 7
      simp only [List.getElem?_toArray, List.getElem?_cons_zero, List.getElem?_cons_succ] at y0 y1 y2 y3 y4 y5 y6 y7
      go_wp2_with fail
      refine (spec_GoodArea.calls _ _ _ _ _ _ _ _ _ _ HG2.out).mono ?_; rintro e w2 ⟨rfl, hd⟩
      have HK0n := Lib.hid (blk_below HK0.out hd); clear HK0; have HK0 := HK0n; clear HK0n
      have HK1n := Lib.hid (blk_below HK1.out hd); clear HK1; have HK1 := HK1n; clear HK1n
      have HK2n := Lib.hid (blk_below HK2.out hd); clear HK2; have HK2 := HK2n; clear HK2n
      have HWn := Lib.hid (below_step HW.out hd); clear HW; have HW := HWn; clear HWn; clear hd
      have q0 := blk_cell HK2.out 0; have q1 := blk_cell HK2.out 1; have q2 := blk_cell HK2.out 2; have q3 := blk_cell HK2.out 3; have q4 := blk_cell HK2.out 4; have q5 := blk_cell HK2.out 5; have q6 := blk_cell HK2.out 6; have q7 := blk_cell HK2.out 7
      simp only [List.getElem?_toArray, List.getElem?_cons_zero, List.getElem?_cons_succ] at q0 q1 q2 q3 q4 q5 q6 q7
      have fq0 := blk_frozen HK2.out 0; have fq1 := blk_frozen HK2.out 1; have fq2 := blk_frozen HK2.out 2; have fq3 := blk_frozen HK2.out 3; have fq4 := blk_frozen HK2.out 4; have fq5 := blk_frozen HK2.out 5; have fq6 := blk_frozen HK2.out 6; have fq7 := blk_frozen HK2.out 7
      go_wp2_with fail
      (try simp only [Exit.inBlock, Exit.then]); refine bodyPost_ret (results_ct rfl _ _ (w.heap.size + 2) 33 _ (0, 0) _ rfl (put8 HK2.out) Try.underlying33 rfl (by kernel_rfl)) rfl ?_
      exact ⟨rfl, below_put8 HW.out (by omega)⟩
    simp only [spec_Meet.j0, Bool.not_true, Bool.false_eq_true, if_false] at h
    replace h := Option.bind_eq_some_iff.mp h
    obtain ⟨⟨m0, m1, m2, m3, m4, m5, m6, m7⟩, h_, h⟩ := h
    have HN1 := Lib.hid h_; clear h_
    replace h := Option.bind_eq_some_iff.mp h
    obtain ⟨⟨n0, n1, n2, n3, n4, n5, n6, n7⟩, h_, h⟩ := h
    have HN2 := Lib.hid h_; clear h_
    replace h := Option.bind_eq_some_iff.mp h
    obtain ⟨x0, h_, h⟩ := h
    have HX0 := Lib.hid h_; clear h_
    replace h := Option.bind_eq_some_iff.mp h
    obtain ⟨x1, h_, h⟩ := h
    have HX1 := Lib.hid h_; clear h_
    replace h := Option.bind_eq_some_iff.mp h
    obtain ⟨x2, h_, h⟩ := h
    have HX2 := Lib.hid h_; clear h_
    replace h := Option.bind_eq_some_iff.mp h
    obtain ⟨x3, h_, h⟩ := h
    have HX3 := Lib.hid h_; clear h_
    replace h := Option.bind_eq_some_iff.mp h
    obtain ⟨⟨u0, u1, u2, u3, u4, u5, u6, u7⟩, h_, h⟩ := h
    have HAR := Lib.hid h_; clear h_
    dsimp only at h
    have HH := Lib.hid h; clear h
    go_enter Try.func20, Try.ntmps20
    go_wp2_with fail
    refine (spec_GoodArea.calls _ _ _ _ _ _ _ _ _ _ HG.out).mono ?_; rintro e w1 ⟨rfl, hd⟩
    have HK0n := Lib.hid (blk_below HK0.out hd); clear HK0; have HK0 := HK0n; clear HK0n
    have HK1n := Lib.hid (blk_below HK1.out hd); clear HK1; have HK1 := HK1n; clear HK1n
    have HK2n := Lib.hid (blk_below HK2.out hd); clear HK2; have HK2 := HK2n; clear HK2n
    have HWn := Lib.hid (below_step HW.out hd); clear HW; have HW := HWn; clear HWn; clear hd
    have y0 := blk_cell HK1.out 0; have y1 := blk_cell HK1.out 1; have y2 := blk_cell HK1.out 2; have y3 := blk_cell HK1.out 3; have y4 := blk_cell HK1.out 4; have y5 := blk_cell HK1.out 5; have y6 := blk_cell HK1.out 6; have y7 := blk_cell HK1.out 7
    simp only [List.getElem?_toArray, List.getElem?_cons_zero, List.getElem?_cons_succ] at y0 y1 y2 y3 y4 y5 y6 y7
    go_wp2_with fail
    refine (spec_GoodArea.calls _ _ _ _ _ _ _ _ _ _ HG2.out).mono ?_; rintro e w2 ⟨rfl, hd⟩
    clear y0 y1 y2 y3 y4 y5 y6 y7
    have HK0n := Lib.hid (blk_below HK0.out hd); clear HK0; have HK0 := HK0n; clear HK0n
    have HK1n := Lib.hid (blk_below HK1.out hd); clear HK1; have HK1 := HK1n; clear HK1n
    have HK2n := Lib.hid (blk_below HK2.out hd); clear HK2; have HK2 := HK2n; clear HK2n
    have HWn := Lib.hid (below_step HW.out hd); clear HW; have HW := HWn; clear HWn; clear hd
    have y0 := blk_cell HK0.out 0; have y1 := blk_cell HK0.out 1; have y2 := blk_cell HK0.out 2; have y3 := blk_cell HK0.out 3; have y4 := blk_cell HK0.out 4; have y5 := blk_cell HK0.out 5; have y6 := blk_cell HK0.out 6; have y7 := blk_cell HK0.out 7
    simp only [List.getElem?_toArray, List.getElem?_cons_zero, List.getElem?_cons_succ] at y0 y1 y2 y3 y4 y5 y6 y7
    go_wp2_with fail
    refine (spec_l3Normal.calls _ _ _ _ _ _ _ _ _ _ _ _ _ _ _ _ _ HN1.out).mono ?_; rintro e w3 ⟨rfl, hd⟩
    clear y0 y1 y2 y3 y4 y5 y6 y7
    have HK0n := Lib.hid (blk_below HK0.out hd); clear HK0; have HK0 := HK0n; clear HK0n
    have HK1n := Lib.hid (blk_below HK1.out hd); clear HK1; have HK1 := HK1n; clear HK1n
    have HK2n := Lib.hid (blk_below HK2.out hd); clear HK2; have HK2 := HK2n; clear HK2n
    have HWn := Lib.hid (below_step HW.out hd); clear HW; have HW := HWn; clear HWn; clear hd
    have y0 := blk_cell HK0.out 0; have y1 := blk_cell HK0.out 1; have y2 := blk_cell HK0.out 2; have y3 := blk_cell HK0.out 3; have y4 := blk_cell HK0.out 4; have y5 := blk_cell HK0.out 5; have y6 := blk_cell HK0.out 6; have y7 := blk_cell HK0.out 7
    simp only [List.getElem?_toArray, List.getElem?_cons_zero, List.getElem?_cons_succ] at y0 y1 y2 y3 y4 y5 y6 y7
    have fy0 := blk_frozen HK0.out 0; have fy1 := blk_frozen HK0.out 1; have fy2 := blk_frozen HK0.out 2; have fy3 := blk_frozen HK0.out 3; have fy4 := blk_frozen HK0.out 4; have fy5 := blk_frozen HK0.out 5; have fy6 := blk_frozen HK0.out 6; have fy7 := blk_frozen HK0.out 7
    have p0 := blk_cell HK1.out 0; have p1 := blk_cell HK1.out 1; have p2 := blk_cell HK1.out 2; have p3 := blk_cell HK1.out 3; have p4 := blk_cell HK1.out 4; have p5 := blk_cell HK1.out 5; have p6 := blk_cell HK1.out 6; have p7 := blk_cell HK1.out 7
    simp only [List.getElem?_toArray, List.getElem?_cons_zero, List.getElem?_cons_succ] at p0 p1 p2 p3 p4 p5 p6 p7
    go_wp2_with fail
    have h0_ := put8 (u0 := (.int .i64 m0)) (u1 := (.int .i64 m1)) (u2 := (.bool m2)) (u3 := (.bool m3)) (u4 := (.int .i64 m4)) (u5 := (.int .i64 m5)) (u6 := (.bool m6)) (u7 := (.bool m7)) HK0.out; have h1_ := far8 (p := w.heap.size) (u0 := (.int .i64 m0)) (u1 := (.int .i64 m1)) (u2 := (.bool m2)) (u3 := (.bool m3)) (u4 := (.int .i64 m4)) (u5 := (.int .i64 m5)) (u6 := (.bool m6)) (u7 := (.bool m7)) HK1.out (by omega); have h2_ := far8 (p := w.heap.size) (u0 := (.int .i64 m0)) (u1 := (.int .i64 m1)) (u2 := (.bool m2)) (u3 := (.bool m3)) (u4 := (.int .i64 m4)) (u5 := (.int .i64 m5)) (u6 := (.bool m6)) (u7 := (.bool m7)) HK2.out (by omega); have hw_ := below_put8 (p := w.heap.size) (u0 := (.int .i64 m0)) (u1 := (.int .i64 m1)) (u2 := (.bool m2)) (u3 := (.bool m3)) (u4 := (.int .i64 m4)) (u5 := (.int .i64 m5)) (u6 := (.bool m6)) (u7 := (.bool m7)) HW.out (Nat.le_refl _)
    refine (spec_l3Normal.calls _ _ _ _ _ _ _ _ _ _ _ _ _ _ _ _ _ HN2.out).mono ?_; rintro e w4 ⟨rfl, hd⟩
    clear HK0 HK1 HK2 HW y0 fy0 p0 y1 fy1 p1 y2 fy2 p2 y3 fy3 p3 y4 fy4 p4 y5 fy5 p5 y6 fy6 p6 y7 fy7 p7
    have HK0 := Lib.hid (blk_below h0_ hd); have HK1 := Lib.hid (blk_below h1_ hd); have HK2 := Lib.hid (blk_below h2_ hd); have HW := Lib.hid (below_step hw_ hd); clear h0_ h1_ h2_ hw_ hd
    have p0 := blk_cell HK1.out 0; have p1 := blk_cell HK1.out 1; have p2 := blk_cell HK1.out 2; have p3 := blk_cell HK1.out 3; have p4 := blk_cell HK1.out 4; have p5 := blk_cell HK1.out 5; have p6 := blk_cell HK1.out 6; have p7 := blk_cell HK1.out 7
    simp only [List.getElem?_toArray, List.getElem?_cons_zero, List.getElem?_cons_succ] at p0 p1 p2 p3 p4 p5 p6 p7
    have fp0 := blk_frozen HK1.out 0; have fp1 := blk_frozen HK1.out 1; have fp2 := blk_frozen HK1.out 2; have fp3 := blk_frozen HK1.out 3; have fp4 := blk_frozen HK1.out 4; have fp5 := blk_frozen HK1.out 5; have fp6 := blk_frozen HK1.out 6; have fp7 := blk_frozen HK1.out 7
    go_upto_region 6 with fail
    go_cut [6] (fun v6 wx => ∃ g : Nat, v6 = .pointer (some ⟨g, 0, none⟩) ∧ g ≠ w.heap.size + 2 ∧ Hid (wx.heap[g]? = some (.cells #[.int .i64 u0, .int .i64 u1, .bool u2, .bool u3, .int .i64 u4, .int .i64 u5, .bool u6, .bool u7] 33 (0, 0))) ∧ Hid (wx.heap[w.heap.size + 2]? = some (.cells #[.int .i64 0, .int .i64 0, .bool false, .bool false, .int .i64 0, .int .i64 0, .bool false, .bool false] 33 (0, 0))) ∧ Hid (Below w.heap.size w wx))
    case first =>
      have lt0_ := blk_lt HK0.out; have lt1_ := blk_lt HK1.out; have lt2_ := blk_lt HK2.out
      have h0_ := far8 (p := w.heap.size + 1) (u0 := (.int .i64 n0)) (u1 := (.int .i64 n1)) (u2 := (.bool n2)) (u3 := (.bool n3)) (u4 := (.int .i64 n4)) (u5 := (.int .i64 n5)) (u6 := (.bool n6)) (u7 := (.bool n7)) HK0.out (by omega); have h1_ := put8 (u0 := (.int .i64 n0)) (u1 := (.int .i64 n1)) (u2 := (.bool n2)) (u3 := (.bool n3)) (u4 := (.int .i64 n4)) (u5 := (.int .i64 n5)) (u6 := (.bool n6)) (u7 := (.bool n7)) HK1.out; have h2_ := far8 (p := w.heap.size + 1) (u0 := (.int .i64 n0)) (u1 := (.int .i64 n1)) (u2 := (.bool n2)) (u3 := (.bool n3)) (u4 := (.int .i64 n4)) (u5 := (.int .i64 n5)) (u6 := (.bool n6)) (u7 := (.bool n7)) HK2.out (by omega); have hw_ := below_put8 (p := w.heap.size + 1) (u0 := (.int .i64 n0)) (u1 := (.int .i64 n1)) (u2 := (.bool n2)) (u3 := (.bool n3)) (u4 := (.int .i64 n4)) (u5 := (.int .i64 n5)) (u6 := (.bool n6)) (u7 := (.bool n7)) HW.out (by omega)
      clear HK0 HK1 HK2 HW; have HK0 := Lib.hid h0_; have HK1 := Lib.hid h1_; have HK2 := Lib.hid h2_; have HW := Lib.hid hw_; clear h0_ h1_ h2_ hw_
      have y0_0 := blk_cell HK0.out 0; have y0_1 := blk_cell HK0.out 1; have y0_4 := blk_cell HK0.out 4; have y0_5 := blk_cell HK0.out 5; have y1_0 := blk_cell HK1.out 0; have y1_1 := blk_cell HK1.out 1; have y1_4 := blk_cell HK1.out 4; have y1_5 := blk_cell HK1.out 5
      simp only [List.getElem?_toArray, List.getElem?_cons_zero, List.getElem?_cons_succ] at y0_0 y0_1 y0_4 y0_5 y1_0 y1_1 y1_4 y1_5
      first | go_region_held3 (fun w' => w'.cell? ⟨w.heap.size, 0, none⟩ = some (.int .i64 m0) ∧ w'.cell? ⟨w.heap.size, 1, none⟩ = some (.int .i64 m1) ∧ w'.cell? ⟨w.heap.size, 4, none⟩ = some (.int .i64 m4) ∧ w'.cell? ⟨w.heap.size, 5, none⟩ = some (.int .i64 m5) ∧ w'.cell? ⟨w.heap.size + 1, 0, none⟩ = some (.int .i64 n0) ∧ w'.cell? ⟨w.heap.size + 1, 1, none⟩ = some (.int .i64 n1) ∧ w'.cell? ⟨w.heap.size + 1, 4, none⟩ = some (.int .i64 n4) ∧ w'.cell? ⟨w.heap.size + 1, 5, none⟩ = some (.int .i64 n5))
          (first | (go_split_ands; (repeat' apply And.intro) <;> (first | with_reducible assumption | (with_reducible exact cell_drew (by assumption)) | (with_reducible exact pw_cell_below (by assumption) (by assumption)) | (with_reducible exact pw_cell_below (below_alloc (Below.refl _ _) _) (by assumption)) | (with_reducible exact alloc_drew (by assumption)) | (with_reducible exact alloc_swap (by assumption) (by assumption)) | (with_reducible exact cell_far8 (by assumption) (Nat.ne_of_lt (by assumption))) | (simp; done))))
          (first | (go_at_call_of 55 (Value.int .i64 m0); (with_reducible refine (spec_l3Max.calls _ _ _ _ HX0.out).mono ?_); rintro e w' ⟨rfl, hd0⟩; have hb := hd0.below; clear hd0; (with_reducible first | (have HK0n := Lib.hid (blk_below HK0.out hb)) | (have HK0n := Lib.hid (blk_below (blk_drew HK0.out) hb)) | (have HK0n := Lib.hid (blk_below (blk_alloc HK0.out _) hb)) | (have HK0n := Lib.hid (blk_below (blk_drew (blk_alloc HK0.out _)) hb))); (with_reducible first | (have HK1n := Lib.hid (blk_below HK1.out hb)) | (have HK1n := Lib.hid (blk_below (blk_drew HK1.out) hb)) | (have HK1n := Lib.hid (blk_below (blk_alloc HK1.out _) hb)) | (have HK1n := Lib.hid (blk_below (blk_drew (blk_alloc HK1.out _)) hb))); (with_reducible first | (have HK2n := Lib.hid (blk_below HK2.out hb)) | (have HK2n := Lib.hid (blk_below (blk_drew HK2.out) hb)) | (have HK2n := Lib.hid (blk_below (blk_alloc HK2.out _) hb)) | (have HK2n := Lib.hid (blk_below (blk_drew (blk_alloc HK2.out _)) hb))); (with_reducible first | (have HZn := Lib.hid (blk_below HZ.out hb)) | (have HZn := Lib.hid (blk_below (blk_new _ (.cells #[.int .i64 0, .int .i64 0, .bool false, .bool false, .int .i64 0, .int .i64 0, .bool false, .bool false] 33)) hb)) | (have HZn := Lib.hid (blk_below (blk_drew (blk_new _ (.cells #[.int .i64 0, .int .i64 0, .bool false, .bool false, .int .i64 0, .int .i64 0, .bool false, .bool false] 33))) hb)) | (have HZn := True.intro)); (with_reducible first | (have HWn := Lib.hid (below_step HW.out hb)) | (have HWn := Lib.hid (below_step (below_drew1 HW.out) hb)) | (have HWn := Lib.hid (below_step (below_alloc HW.out _) hb)) | (have HWn := Lib.hid (below_step (below_drew1 (below_alloc HW.out _)) hb))); clear HK0; have HK0 := HK0n; clear HK0n; clear HK1; have HK1 := HK1n; clear HK1n; clear HK2; have HK2 := HK2n; clear HK2n; have lt0_ := blk_lt HK0.out; have lt1_ := blk_lt HK1.out; have lt2_ := blk_lt HK2.out; clear y0_0 y0_1 y0_4 y0_5 y1_0 y1_1 y1_4 y1_5; have y0_0 := blk_cell HK0.out 0; have y0_1 := blk_cell HK0.out 1; have y0_4 := blk_cell HK0.out 4; have y0_5 := blk_cell HK0.out 5; have y1_0 := blk_cell HK1.out 0; have y1_1 := blk_cell HK1.out 1; have y1_4 := blk_cell HK1.out 4; have y1_5 := blk_cell HK1.out 5; simp only [List.getElem?_toArray, List.getElem?_cons_zero, List.getElem?_cons_succ] at y0_0 y0_1 y0_4 y0_5 y1_0 y1_1 y1_4 y1_5; (try clear HZ); have HZ := HZn; clear HZn; (try (have hz_ := HZ.out; simp only [World.size_alloc, World.size_setCell] at hz_; clear HZ; have HZ := Lib.hid hz_; clear hz_)); clear HW; have HW := HWn; clear HWn; clear hb; (try clear z0 q0 z1 q1 z2 q2 z3 q3 z4 q4 z5 q5 z6 q6 z7 q7); (try (have z0 := blk_frozen HZ.out 0; have q0 := blk_cell HZ.out 0; have z1 := blk_frozen HZ.out 1; have q1 := blk_cell HZ.out 1; have z2 := blk_frozen HZ.out 2; have q2 := blk_cell HZ.out 2; have z3 := blk_frozen HZ.out 3; have q3 := blk_cell HZ.out 3; have z4 := blk_frozen HZ.out 4; have q4 := blk_cell HZ.out 4; have z5 := blk_frozen HZ.out 5; have q5 := blk_cell HZ.out 5; have z6 := blk_frozen HZ.out 6; have q6 := blk_cell HZ.out 6; have z7 := blk_frozen HZ.out 7; have q7 := blk_cell HZ.out 7; simp only [List.getElem?_toArray, List.getElem?_cons_zero, List.getElem?_cons_succ] at q0 q1 q2 q3 q4 q5 q6 q7; (try simp only [World.size_alloc, World.size_setCell] at z0 q0 z1 q1 z2 q2 z3 q3 z4 q4 z5 q5 z6 q6 z7 q7)))) | (go_at_call_of 55 (Value.int .i64 m1); (with_reducible refine (spec_l3Max.calls _ _ _ _ HX1.out).mono ?_); rintro e w' ⟨rfl, hd0⟩; have hb := hd0.below; clear hd0; (with_reducible first | (have HK0n := Lib.hid (blk_below HK0.out hb)) | (have HK0n := Lib.hid (blk_below (blk_drew HK0.out) hb)) | (have HK0n := Lib.hid (blk_below (blk_alloc HK0.out _) hb)) | (have HK0n := Lib.hid (blk_below (blk_drew (blk_alloc HK0.out _)) hb))); (with_reducible first | (have HK1n := Lib.hid (blk_below HK1.out hb)) | (have HK1n := Lib.hid (blk_below (blk_drew HK1.out) hb)) | (have HK1n := Lib.hid (blk_below (blk_alloc HK1.out _) hb)) | (have HK1n := Lib.hid (blk_below (blk_drew (blk_alloc HK1.out _)) hb))); (with_reducible first | (have HK2n := Lib.hid (blk_below HK2.out hb)) | (have HK2n := Lib.hid (blk_below (blk_drew HK2.out) hb)) | (have HK2n := Lib.hid (blk_below (blk_alloc HK2.out _) hb)) | (have HK2n := Lib.hid (blk_below (blk_drew (blk_alloc HK2.out _)) hb))); (with_reducible first | (have HZn := Lib.hid (blk_below HZ.out hb)) | (have HZn := Lib.hid (blk_below (blk_new _ (.cells #[.int .i64 0, .int .i64 0, .bool false, .bool false, .int .i64 0, .int .i64 0, .bool false, .bool false] 33)) hb)) | (have HZn := Lib.hid (blk_below (blk_drew (blk_new _ (.cells #[.int .i64 0, .int .i64 0, .bool false, .bool false, .int .i64 0, .int .i64 0, .bool false, .bool false] 33))) hb)) | (have HZn := True.intro)); (with_reducible first | (have HWn := Lib.hid (below_step HW.out hb)) | (have HWn := Lib.hid (below_step (below_drew1 HW.out) hb)) | (have HWn := Lib.hid (below_step (below_alloc HW.out _) hb)) | (have HWn := Lib.hid (below_step (below_drew1 (below_alloc HW.out _)) hb))); clear HK0; have HK0 := HK0n; clear HK0n; clear HK1; have HK1 := HK1n; clear HK1n; clear HK2; have HK2 := HK2n; clear HK2n; have lt0_ := blk_lt HK0.out; have lt1_ := blk_lt HK1.out; have lt2_ := blk_lt HK2.out; clear y0_0 y0_1 y0_4 y0_5 y1_0 y1_1 y1_4 y1_5; have y0_0 := blk_cell HK0.out 0; have y0_1 := blk_cell HK0.out 1; have y0_4 := blk_cell HK0.out 4; have y0_5 := blk_cell HK0.out 5; have y1_0 := blk_cell HK1.out 0; have y1_1 := blk_cell HK1.out 1; have y1_4 := blk_cell HK1.out 4; have y1_5 := blk_cell HK1.out 5; simp only [List.getElem?_toArray, List.getElem?_cons_zero, List.getElem?_cons_succ] at y0_0 y0_1 y0_4 y0_5 y1_0 y1_1 y1_4 y1_5; (try clear HZ); have HZ := HZn; clear HZn; (try (have hz_ := HZ.out; simp only [World.size_alloc, World.size_setCell] at hz_; clear HZ; have HZ := Lib.hid hz_; clear hz_)); clear HW; have HW := HWn; clear HWn; clear hb; (try clear z0 q0 z1 q1 z2 q2 z3 q3 z4 q4 z5 q5 z6 q6 z7 q7); (try (have z0 := blk_frozen HZ.out 0; have q0 := blk_cell HZ.out 0; have z1 := blk_frozen HZ.out 1; have q1 := blk_cell HZ.out 1; have z2 := blk_frozen HZ.out 2; have q2 := blk_cell HZ.out 2; have z3 := blk_frozen HZ.out 3; have q3 := blk_cell HZ.out 3; have z4 := blk_frozen HZ.out 4; have q4 := blk_cell HZ.out 4; have z5 := blk_frozen HZ.out 5; have q5 := blk_cell HZ.out 5; have z6 := blk_frozen HZ.out 6; have q6 := blk_cell HZ.out 6; have z7 := blk_frozen HZ.out 7; have q7 := blk_cell HZ.out 7; simp only [List.getElem?_toArray, List.getElem?_cons_zero, List.getElem?_cons_succ] at q0 q1 q2 q3 q4 q5 q6 q7; (try simp only [World.size_alloc, World.size_setCell] at z0 q0 z1 q1 z2 q2 z3 q3 z4 q4 z5 q5 z6 q6 z7 q7)))) | (go_at_call_of 56 (Value.int .i64 m4); (with_reducible refine (spec_l3Min.calls _ _ _ _ HX2.out).mono ?_); rintro e w' ⟨rfl, hd0⟩; have hb := hd0.below; clear hd0; (with_reducible first | (have HK0n := Lib.hid (blk_below HK0.out hb)) | (have HK0n := Lib.hid (blk_below (blk_drew HK0.out) hb)) | (have HK0n := Lib.hid (blk_below (blk_alloc HK0.out _) hb)) | (have HK0n := Lib.hid (blk_below (blk_drew (blk_alloc HK0.out _)) hb))); (with_reducible first | (have HK1n := Lib.hid (blk_below HK1.out hb)) | (have HK1n := Lib.hid (blk_below (blk_drew HK1.out) hb)) | (have HK1n := Lib.hid (blk_below (blk_alloc HK1.out _) hb)) | (have HK1n := Lib.hid (blk_below (blk_drew (blk_alloc HK1.out _)) hb))); (with_reducible first | (have HK2n := Lib.hid (blk_below HK2.out hb)) | (have HK2n := Lib.hid (blk_below (blk_drew HK2.out) hb)) | (have HK2n := Lib.hid (blk_below (blk_alloc HK2.out _) hb)) | (have HK2n := Lib.hid (blk_below (blk_drew (blk_alloc HK2.out _)) hb))); (with_reducible first | (have HZn := Lib.hid (blk_below HZ.out hb)) | (have HZn := Lib.hid (blk_below (blk_new _ (.cells #[.int .i64 0, .int .i64 0, .bool false, .bool false, .int .i64 0, .int .i64 0, .bool false, .bool false] 33)) hb)) | (have HZn := Lib.hid (blk_below (blk_drew (blk_new _ (.cells #[.int .i64 0, .int .i64 0, .bool false, .bool false, .int .i64 0, .int .i64 0, .bool false, .bool false] 33))) hb)) | (have HZn := True.intro)); (with_reducible first | (have HWn := Lib.hid (below_step HW.out hb)) | (have HWn := Lib.hid (below_step (below_drew1 HW.out) hb)) | (have HWn := Lib.hid (below_step (below_alloc HW.out _) hb)) | (have HWn := Lib.hid (below_step (below_drew1 (below_alloc HW.out _)) hb))); clear HK0; have HK0 := HK0n; clear HK0n; clear HK1; have HK1 := HK1n; clear HK1n; clear HK2; have HK2 := HK2n; clear HK2n; have lt0_ := blk_lt HK0.out; have lt1_ := blk_lt HK1.out; have lt2_ := blk_lt HK2.out; clear y0_0 y0_1 y0_4 y0_5 y1_0 y1_1 y1_4 y1_5; have y0_0 := blk_cell HK0.out 0; have y0_1 := blk_cell HK0.out 1; have y0_4 := blk_cell HK0.out 4; have y0_5 := blk_cell HK0.out 5; have y1_0 := blk_cell HK1.out 0; have y1_1 := blk_cell HK1.out 1; have y1_4 := blk_cell HK1.out 4; have y1_5 := blk_cell HK1.out 5; simp only [List.getElem?_toArray, List.getElem?_cons_zero, List.getElem?_cons_succ] at y0_0 y0_1 y0_4 y0_5 y1_0 y1_1 y1_4 y1_5; (try clear HZ); have HZ := HZn; clear HZn; (try (have hz_ := HZ.out; simp only [World.size_alloc, World.size_setCell] at hz_; clear HZ; have HZ := Lib.hid hz_; clear hz_)); clear HW; have HW := HWn; clear HWn; clear hb; (try clear z0 q0 z1 q1 z2 q2 z3 q3 z4 q4 z5 q5 z6 q6 z7 q7); (try (have z0 := blk_frozen HZ.out 0; have q0 := blk_cell HZ.out 0; have z1 := blk_frozen HZ.out 1; have q1 := blk_cell HZ.out 1; have z2 := blk_frozen HZ.out 2; have q2 := blk_cell HZ.out 2; have z3 := blk_frozen HZ.out 3; have q3 := blk_cell HZ.out 3; have z4 := blk_frozen HZ.out 4; have q4 := blk_cell HZ.out 4; have z5 := blk_frozen HZ.out 5; have q5 := blk_cell HZ.out 5; have z6 := blk_frozen HZ.out 6; have q6 := blk_cell HZ.out 6; have z7 := blk_frozen HZ.out 7; have q7 := blk_cell HZ.out 7; simp only [List.getElem?_toArray, List.getElem?_cons_zero, List.getElem?_cons_succ] at q0 q1 q2 q3 q4 q5 q6 q7; (try simp only [World.size_alloc, World.size_setCell] at z0 q0 z1 q1 z2 q2 z3 q3 z4 q4 z5 q5 z6 q6 z7 q7)))) | (go_at_call_of 56 (Value.int .i64 m5); (with_reducible refine (spec_l3Min.calls _ _ _ _ HX3.out).mono ?_); rintro e w' ⟨rfl, hd0⟩; have hb := hd0.below; clear hd0; (with_reducible first | (have HK0n := Lib.hid (blk_below HK0.out hb)) | (have HK0n := Lib.hid (blk_below (blk_drew HK0.out) hb)) | (have HK0n := Lib.hid (blk_below (blk_alloc HK0.out _) hb)) | (have HK0n := Lib.hid (blk_below (blk_drew (blk_alloc HK0.out _)) hb))); (with_reducible first | (have HK1n := Lib.hid (blk_below HK1.out hb)) | (have HK1n := Lib.hid (blk_below (blk_drew HK1.out) hb)) | (have HK1n := Lib.hid (blk_below (blk_alloc HK1.out _) hb)) | (have HK1n := Lib.hid (blk_below (blk_drew (blk_alloc HK1.out _)) hb))); (with_reducible first | (have HK2n := Lib.hid (blk_below HK2.out hb)) | (have HK2n := Lib.hid (blk_below (blk_drew HK2.out) hb)) | (have HK2n := Lib.hid (blk_below (blk_alloc HK2.out _) hb)) | (have HK2n := Lib.hid (blk_below (blk_drew (blk_alloc HK2.out _)) hb))); (with_reducible first | (have HZn := Lib.hid (blk_below HZ.out hb)) | (have HZn := Lib.hid (blk_below (blk_new _ (.cells #[.int .i64 0, .int .i64 0, .bool false, .bool false, .int .i64 0, .int .i64 0, .bool false, .bool false] 33)) hb)) | (have HZn := Lib.hid (blk_below (blk_drew (blk_new _ (.cells #[.int .i64 0, .int .i64 0, .bool false, .bool false, .int .i64 0, .int .i64 0, .bool false, .bool false] 33))) hb)) | (have HZn := True.intro)); (with_reducible first | (have HWn := Lib.hid (below_step HW.out hb)) | (have HWn := Lib.hid (below_step (below_drew1 HW.out) hb)) | (have HWn := Lib.hid (below_step (below_alloc HW.out _) hb)) | (have HWn := Lib.hid (below_step (below_drew1 (below_alloc HW.out _)) hb))); clear HK0; have HK0 := HK0n; clear HK0n; clear HK1; have HK1 := HK1n; clear HK1n; clear HK2; have HK2 := HK2n; clear HK2n; have lt0_ := blk_lt HK0.out; have lt1_ := blk_lt HK1.out; have lt2_ := blk_lt HK2.out; clear y0_0 y0_1 y0_4 y0_5 y1_0 y1_1 y1_4 y1_5; have y0_0 := blk_cell HK0.out 0; have y0_1 := blk_cell HK0.out 1; have y0_4 := blk_cell HK0.out 4; have y0_5 := blk_cell HK0.out 5; have y1_0 := blk_cell HK1.out 0; have y1_1 := blk_cell HK1.out 1; have y1_4 := blk_cell HK1.out 4; have y1_5 := blk_cell HK1.out 5; simp only [List.getElem?_toArray, List.getElem?_cons_zero, List.getElem?_cons_succ] at y0_0 y0_1 y0_4 y0_5 y1_0 y1_1 y1_4 y1_5; (try clear HZ); have HZ := HZn; clear HZn; (try (have hz_ := HZ.out; simp only [World.size_alloc, World.size_setCell] at hz_; clear HZ; have HZ := Lib.hid hz_; clear hz_)); clear HW; have HW := HWn; clear HWn; clear hb; (try clear z0 q0 z1 q1 z2 q2 z3 q3 z4 q4 z5 q5 z6 q6 z7 q7); (try (have z0 := blk_frozen HZ.out 0; have q0 := blk_cell HZ.out 0; have z1 := blk_frozen HZ.out 1; have q1 := blk_cell HZ.out 1; have z2 := blk_frozen HZ.out 2; have q2 := blk_cell HZ.out 2; have z3 := blk_frozen HZ.out 3; have q3 := blk_cell HZ.out 3; have z4 := blk_frozen HZ.out 4; have q4 := blk_cell HZ.out 4; have z5 := blk_frozen HZ.out 5; have q5 := blk_cell HZ.out 5; have z6 := blk_frozen HZ.out 6; have q6 := blk_cell HZ.out 6; have z7 := blk_frozen HZ.out 7; have q7 := blk_cell HZ.out 7; simp only [List.getElem?_toArray, List.getElem?_cons_zero, List.getElem?_cons_succ] at q0 q1 q2 q3 q4 q5 q6 q7; (try simp only [World.size_alloc, World.size_setCell] at z0 q0 z1 q1 z2 q2 z3 q3 z4 q4 z5 q5 z6 q6 z7 q7)))) | (go_at_call 53; (with_reducible refine (spec_l3Area.calls _ _ _ _ _ _ _ _ _ _ _ _ _ HAR.out).mono ?_); rintro e w' ⟨rfl, hb⟩; (with_reducible first | (have HK0n := Lib.hid (blk_below HK0.out hb)) | (have HK0n := Lib.hid (blk_below (blk_drew HK0.out) hb)) | (have HK0n := Lib.hid (blk_below (blk_alloc HK0.out _) hb)) | (have HK0n := Lib.hid (blk_below (blk_drew (blk_alloc HK0.out _)) hb))); (with_reducible first | (have HK1n := Lib.hid (blk_below HK1.out hb)) | (have HK1n := Lib.hid (blk_below (blk_drew HK1.out) hb)) | (have HK1n := Lib.hid (blk_below (blk_alloc HK1.out _) hb)) | (have HK1n := Lib.hid (blk_below (blk_drew (blk_alloc HK1.out _)) hb))); (with_reducible first | (have HK2n := Lib.hid (blk_below HK2.out hb)) | (have HK2n := Lib.hid (blk_below (blk_drew HK2.out) hb)) | (have HK2n := Lib.hid (blk_below (blk_alloc HK2.out _) hb)) | (have HK2n := Lib.hid (blk_below (blk_drew (blk_alloc HK2.out _)) hb))); (with_reducible first | (have HZn := Lib.hid (blk_below HZ.out hb)) | (have HZn := Lib.hid (blk_below (blk_new _ (.cells #[.int .i64 0, .int .i64 0, .bool false, .bool false, .int .i64 0, .int .i64 0, .bool false, .bool false] 33)) hb)) | (have HZn := Lib.hid (blk_below (blk_drew (blk_new _ (.cells #[.int .i64 0, .int .i64 0, .bool false, .bool false, .int .i64 0, .int .i64 0, .bool false, .bool false] 33))) hb)) | (have HZn := True.intro)); (with_reducible first | (have HWn := Lib.hid (below_step HW.out hb)) | (have HWn := Lib.hid (below_step (below_drew1 HW.out) hb)) | (have HWn := Lib.hid (below_step (below_alloc HW.out _) hb)) | (have HWn := Lib.hid (below_step (below_drew1 (below_alloc HW.out _)) hb))); clear HK0; have HK0 := HK0n; clear HK0n; clear HK1; have HK1 := HK1n; clear HK1n; clear HK2; have HK2 := HK2n; clear HK2n; have lt0_ := blk_lt HK0.out; have lt1_ := blk_lt HK1.out; have lt2_ := blk_lt HK2.out; clear y0_0 y0_1 y0_4 y0_5 y1_0 y1_1 y1_4 y1_5; have y0_0 := blk_cell HK0.out 0; have y0_1 := blk_cell HK0.out 1; have y0_4 := blk_cell HK0.out 4; have y0_5 := blk_cell HK0.out 5; have y1_0 := blk_cell HK1.out 0; have y1_1 := blk_cell HK1.out 1; have y1_4 := blk_cell HK1.out 4; have y1_5 := blk_cell HK1.out 5; simp only [List.getElem?_toArray, List.getElem?_cons_zero, List.getElem?_cons_succ] at y0_0 y0_1 y0_4 y0_5 y1_0 y1_1 y1_4 y1_5; (try clear HZ); have HZ := HZn; clear HZn; (try (have hz_ := HZ.out; simp only [World.size_alloc, World.size_setCell] at hz_; clear HZ; have HZ := Lib.hid hz_; clear hz_)); clear HW; have HW := HWn; clear HWn; clear hb; (try clear z0 q0 z1 q1 z2 q2 z3 q3 z4 q4 z5 q5 z6 q6 z7 q7); (try (have z0 := blk_frozen HZ.out 0; have q0 := blk_cell HZ.out 0; have z1 := blk_frozen HZ.out 1; have q1 := blk_cell HZ.out 1; have z2 := blk_frozen HZ.out 2; have q2 := blk_cell HZ.out 2; have z3 := blk_frozen HZ.out 3; have q3 := blk_cell HZ.out 3; have z4 := blk_frozen HZ.out 4; have q4 := blk_cell HZ.out 4; have z5 := blk_frozen HZ.out 5; have q5 := blk_cell HZ.out 5; have z6 := blk_frozen HZ.out 6; have q6 := blk_cell HZ.out 6; have z7 := blk_frozen HZ.out 7; have q7 := blk_cell HZ.out 7; simp only [List.getElem?_toArray, List.getElem?_cons_zero, List.getElem?_cons_succ] at q0 q1 q2 q3 q4 q5 q6 q7; (try simp only [World.size_alloc, World.size_setCell] at z0 q0 z1 q1 z2 q2 z3 q3 z4 q4 z5 q5 z6 q6 z7 q7))))) | fail
      all_goals
        go_wp2_with fail
        go_meet
        first
        | with_reducible exact ⟨_, rfl, Nat.ne_of_gt (by assumption), Lib.hid (blk_new _ _), Lib.hid (blk_alloc HK2.out _), Lib.hid (below_alloc HW.out _)⟩
        | with_reducible exact ⟨_, rfl, Nat.ne_of_gt (by assumption), Lib.hid (put8 HZ.out), Lib.hid (far8 HK2.out (Nat.ne_of_lt (by assumption))), Lib.hid (below_put8 HW.out (Nat.le_of_lt (by assumption)))⟩
    case rest =>
      obtain ⟨g, rfl, hne, HGm, HK2, HW⟩ := hcut
      have hne2 := hne.symm
      have p0 := blk_cell HGm.out 0; have p1 := blk_cell HGm.out 1; have p2 := blk_cell HGm.out 2; have p3 := blk_cell HGm.out 3; have p4 := blk_cell HGm.out 4; have p5 := blk_cell HGm.out 5; have p6 := blk_cell HGm.out 6; have p7 := blk_cell HGm.out 7
      simp only [List.getElem?_toArray, List.getElem?_cons_zero, List.getElem?_cons_succ] at p0 p1 p2 p3 p4 p5 p6 p7
      have q0 := blk_cell HK2.out 0; have q1 := blk_cell HK2.out 1; have q2 := blk_cell HK2.out 2; have q3 := blk_cell HK2.out 3; have q4 := blk_cell HK2.out 4; have q5 := blk_cell HK2.out 5; have q6 := blk_cell HK2.out 6; have q7 := blk_cell HK2.out 7
      simp only [List.getElem?_toArray, List.getElem?_cons_zero, List.getElem?_cons_succ] at q0 q1 q2 q3 q4 q5 q6 q7
      have fq0 := blk_frozen HK2.out 0; have fq1 := blk_frozen HK2.out 1; have fq2 := blk_frozen HK2.out 2; have fq3 := blk_frozen HK2.out 3; have fq4 := blk_frozen HK2.out 4; have fq5 := blk_frozen HK2.out 5; have fq6 := blk_frozen HK2.out 6; have fq7 := blk_frozen HK2.out 7
      have hh := HH.out
      by_cases c1 : u0 > u4
      · rw [if_pos c1] at hh; simp only [Option.some.injEq, Prod.mk.injEq] at hh; obtain ⟨rfl, rfl, rfl, rfl, rfl, rfl, rfl, rfl, rfl⟩ := hh
        have b1 : decide (u4 < u0) = true := decide_eq_true c1
        clear c1
        go_wp2_with fail
        (try simp only [Exit.inBlock, Exit.then]); refine bodyPost_ret (results_ct rfl _ _ (w.heap.size + 2) 33 _ (0, 0) _ rfl (put8 HK2.out) Try.underlying33 rfl (by kernel_rfl)) rfl ?_
        exact ⟨rfl, below_put8 HW.out (by omega)⟩
      rw [if_neg c1] at hh
      have b1 : decide (u4 < u0) = false := decide_eq_false c1
      by_cases c2 : u1 > u5
      · rw [if_pos c2] at hh; simp only [Option.some.injEq, Prod.mk.injEq] at hh; obtain ⟨rfl, rfl, rfl, rfl, rfl, rfl, rfl, rfl, rfl⟩ := hh
        have b2 : decide (u5 < u1) = true := decide_eq_true c2
        clear c1 c2
        go_wp2_with fail
        (try simp only [Exit.inBlock, Exit.then]); refine bodyPost_ret (results_ct rfl _ _ (w.heap.size + 2) 33 _ (0, 0) _ rfl (put8 HK2.out) Try.underlying33 rfl (by kernel_rfl)) rfl ?_
        exact ⟨rfl, below_put8 HW.out (by omega)⟩
      rw [if_neg c2] at hh; simp only [Option.some.injEq, Prod.mk.injEq] at hh; obtain ⟨rfl, rfl, rfl, rfl, rfl, rfl, rfl, rfl, rfl⟩ := hh
      have b2 : decide (u5 < u1) = false := decide_eq_false c2
      clear c1 c2
      go_wp2_with fail
      (try simp only [Exit.inBlock, Exit.then]); refine bodyPost_ret (results_ct rfl _ _ (w.heap.size + 2) 33 _ (0, 0) _ rfl (put8 HK2.out) Try.underlying33 rfl (by kernel_rfl)) rfl ?_
      exact ⟨rfl, below_put8 HW.out (by omega)⟩

/-! ### spec_Without: function 16 -/

mutual
def spec_Without.j0 : Nat → Bool → Int → Int → Bool → Bool → Int → Int → Bool → Bool → Int → Int → Bool → Bool → Int → Int → Bool → Bool → Option ((List (S33)))
  | 0, _, _, _, _, _, _, _, _, _, _, _, _, _, _, _, _, _ => none
  | k + 1, x15, x193000, x193001, x193002, x193003, x193004, x193005, x193006, x193007, x194000, x194001, x194002, x194003, x194004, x194005, x194006, x194007 => if x15 = true then (some ([] : List (S33))) else ((spec_l3Normal.f x193000 x193001 x193002 x193003 x193004 x193005 x193006 x193007).bind fun bt196 => ((spec_Meet.f k bt196.1 bt196.2.1 bt196.2.2.1 bt196.2.2.2.1 bt196.2.2.2.2.1 bt196.2.2.2.2.2.1 bt196.2.2.2.2.2.2.1 bt196.2.2.2.2.2.2.2 x194000 x194001 x194002 x194003 x194004 x194005 x194006 x194007).bind fun bt204 => (if bt204.2.2.2.2.2.2.2.2 = true then (if bt196.1 < bt204.1 then ((spec_l3Area.f bt196.1 bt196.2.1 (wrap64 (bt204.1 - 1)) bt196.2.2.2.2.2.1).bind fun bt225 => (if ([] : List (S33)).length < 2932031007402 then (spec_Without.j1 k (([] : List (S33)) ++ [(⟨(⟨bt225.1, bt225.2.1, bt225.2.2.1, bt225.2.2.2.1⟩ : S31), (⟨bt225.2.2.2.2.1, bt225.2.2.2.2.2.1, bt225.2.2.2.2.2.2.1, bt225.2.2.2.2.2.2.2⟩ : S31)⟩ : S33)]) bt196.1 bt196.2.1 bt196.2.2.1 bt196.2.2.2.1 bt196.2.2.2.2.1 bt196.2.2.2.2.2.1 bt196.2.2.2.2.2.2.1 bt196.2.2.2.2.2.2.2 bt204.1 bt204.2.1 bt204.2.2.1 bt204.2.2.2.1 bt204.2.2.2.2.1 bt204.2.2.2.2.2.1 bt204.2.2.2.2.2.2.1 bt204.2.2.2.2.2.2.2.1) else (none))) else (spec_Without.j1 k ([] : List (S33)) bt196.1 bt196.2.1 bt196.2.2.1 bt196.2.2.2.1 bt196.2.2.2.2.1 bt196.2.2.2.2.2.1 bt196.2.2.2.2.2.2.1 bt196.2.2.2.2.2.2.2 bt204.1 bt204.2.1 bt204.2.2.1 bt204.2.2.2.1 bt204.2.2.2.2.1 bt204.2.2.2.2.2.1 bt204.2.2.2.2.2.2.1 bt204.2.2.2.2.2.2.2.1)) else ((spec_l3Area.f bt196.1 bt196.2.1 bt196.2.2.2.2.1 bt196.2.2.2.2.2.1).bind fun bt214 => (some (([(⟨(⟨bt214.1, bt214.2.1, bt214.2.2.1, bt214.2.2.2.1⟩ : S31), (⟨bt214.2.2.2.2.1, bt214.2.2.2.2.2.1, bt214.2.2.2.2.2.2.1, bt214.2.2.2.2.2.2.2⟩ : S31)⟩ : S33)] : List (S33))))))))
def spec_Without.j1 : Nat → List (S33) → Int → Int → Bool → Bool → Int → Int → Bool → Bool → Int → Int → Bool → Bool → Int → Int → Bool → Bool → Option ((List (S33)))
  | 0, _, _, _, _, _, _, _, _, _, _, _, _, _, _, _, _, _ => none
  | k + 1, x7, x193000, x193001, x193002, x193003, x193004, x193005, x193006, x193007, x214000, x214001, x214002, x214003, x214004, x214005, x214006, x214007 => if x193004 > x214004 then ((spec_l3Area.f (wrap64 (x214004 + 1)) x193001 x193004 x193005).bind fun bt236 => (if x7.length < 2932031007402 then (spec_Without.j2 k (x7 ++ [(⟨(⟨bt236.1, bt236.2.1, bt236.2.2.1, bt236.2.2.2.1⟩ : S31), (⟨bt236.2.2.2.2.1, bt236.2.2.2.2.2.1, bt236.2.2.2.2.2.2.1, bt236.2.2.2.2.2.2.2⟩ : S31)⟩ : S33)]) x193000 x193001 x193002 x193003 x193004 x193005 x193006 x193007 x214000 x214001 x214002 x214003 x214004 x214005 x214006 x214007) else (none))) else (spec_Without.j2 k x7 x193000 x193001 x193002 x193003 x193004 x193005 x193006 x193007 x214000 x214001 x214002 x214003 x214004 x214005 x214006 x214007)
def spec_Without.j2 : Nat → List (S33) → Int → Int → Bool → Bool → Int → Int → Bool → Bool → Int → Int → Bool → Bool → Int → Int → Bool → Bool → Option ((List (S33)))
  | 0, _, _, _, _, _, _, _, _, _, _, _, _, _, _, _, _, _ => none
  | k + 1, x7, x193000, x193001, x193002, x193003, x193004, x193005, x193006, x193007, x214000, x214001, x214002, x214003, x214004, x214005, x214006, x214007 => if x193001 < x214001 then ((spec_l3Area.f x214000 x193001 x214004 (wrap64 (x214001 - 1))).bind fun bt247 => (if x7.length < 2932031007402 then ((some (x7 ++ [(⟨(⟨bt247.1, bt247.2.1, bt247.2.2.1, bt247.2.2.2.1⟩ : S31), (⟨bt247.2.2.2.2.1, bt247.2.2.2.2.2.1, bt247.2.2.2.2.2.2.1, bt247.2.2.2.2.2.2.2⟩ : S31)⟩ : S33)] : List (S33))).bind fun y255 => (if x193005 > x214005 then ((spec_l3Area.f x214000 (wrap64 (x214005 + 1)) x214004 x193005).bind fun bt258 => (if y255.length < 2932031007402 then (some (y255 ++ [(⟨(⟨bt258.1, bt258.2.1, bt258.2.2.1, bt258.2.2.2.1⟩ : S31), (⟨bt258.2.2.2.2.1, bt258.2.2.2.2.2.1, bt258.2.2.2.2.2.2.1, bt258.2.2.2.2.2.2.2⟩ : S31)⟩ : S33)])) else (none))) else (some y255))) else (none))) else (if x193005 > x214005 then ((spec_l3Area.f x214000 (wrap64 (x214005 + 1)) x214004 x193005).bind fun bt269 => (if x7.length < 2932031007402 then (some (x7 ++ [(⟨(⟨bt269.1, bt269.2.1, bt269.2.2.1, bt269.2.2.2.1⟩ : S31), (⟨bt269.2.2.2.2.1, bt269.2.2.2.2.2.1, bt269.2.2.2.2.2.2.1, bt269.2.2.2.2.2.2.2⟩ : S31)⟩ : S33)])) else (none))) else (some x7))
end

def spec_Without.f (k : Nat) (a0_0 : Int) (a0_1 : Int) (a0_2 : Bool) (a0_3 : Bool) (a0_4 : Int) (a0_5 : Int) (a0_6 : Bool) (a0_7 : Bool) (a1_0 : Int) (a1_1 : Int) (a1_2 : Bool) (a1_3 : Bool) (a1_4 : Int) (a1_5 : Int) (a1_6 : Bool) (a1_7 : Bool) : Option ((List (S33))) := (spec_GoodArea.f a0_0 a0_1 a0_2 a0_3 a0_4 a0_5 a0_6 a0_7).bind fun t194 => (if t194 = true then ((spec_GoodArea.f a1_0 a1_1 a1_2 a1_3 a1_4 a1_5 a1_6 a1_7).bind fun t195 => (spec_Without.j0 k (!t195) a0_0 a0_1 a0_2 a0_3 a0_4 a0_5 a0_6 a0_7 a1_0 a1_1 a1_2 a1_3 a1_4 a1_5 a1_6 a1_7)) else (spec_Without.j0 k true a0_0 a0_1 a0_2 a0_3 a0_4 a0_5 a0_6 a0_7 a1_0 a1_1 a1_2 a1_3 a1_4 a1_5 a1_6 a1_7))

theorem spec_Without.mono_l : ∀ k, (∀ y0 y1 y2 y3 y4 y5 y6 y7 y8 y9 y10 y11 y12 y13 y14 y15 y16, LeO (spec_Without.j0 k y0 y1 y2 y3 y4 y5 y6 y7 y8 y9 y10 y11 y12 y13 y14 y15 y16) (spec_Without.j0 (k + 1) y0 y1 y2 y3 y4 y5 y6 y7 y8 y9 y10 y11 y12 y13 y14 y15 y16)) ∧ (∀ y0 y1 y2 y3 y4 y5 y6 y7 y8 y9 y10 y11 y12 y13 y14 y15 y16, LeO (spec_Without.j1 k y0 y1 y2 y3 y4 y5 y6 y7 y8 y9 y10 y11 y12 y13 y14 y15 y16) (spec_Without.j1 (k + 1) y0 y1 y2 y3 y4 y5 y6 y7 y8 y9 y10 y11 y12 y13 y14 y15 y16)) ∧ (∀ y0 y1 y2 y3 y4 y5 y6 y7 y8 y9 y10 y11 y12 y13 y14 y15 y16, LeO (spec_Without.j2 k y0 y1 y2 y3 y4 y5 y6 y7 y8 y9 y10 y11 y12 y13 y14 y15 y16) (spec_Without.j2 (k + 1) y0 y1 y2 y3 y4 y5 y6 y7 y8 y9 y10 y11 y12 y13 y14 y15 y16))
  | 0 => ⟨fun _ _ _ _ _ _ _ _ _ _ _ _ _ _ _ _ _ r h => by simp [spec_Without.j0] at h, fun _ _ _ _ _ _ _ _ _ _ _ _ _ _ _ _ _ r h => by simp [spec_Without.j1] at h, fun _ _ _ _ _ _ _ _ _ _ _ _ _ _ _ _ _ r h => by simp [spec_Without.j2] at h⟩
  | k + 1 => by
    obtain ⟨ih0, ih1, ih2⟩ := spec_Without.mono_l k
    refine ⟨?_, ?_, ?_⟩
    · intro y0 y1 y2 y3 y4 y5 y6 y7 y8 y9 y10 y11 y12 y13 y14 y15 y16
      unfold spec_Without.j0
      repeat' first
      | (with_reducible exact ih0 _ _ _ _ _ _ _ _ _ _ _ _ _ _ _ _ _)
      | (with_reducible exact ih1 _ _ _ _ _ _ _ _ _ _ _ _ _ _ _ _ _)
      | (with_reducible exact ih2 _ _ _ _ _ _ _ _ _ _ _ _ _ _ _ _ _)
      | (with_reducible exact spec_Meet.mono _ _ _ _ _ _ _ _ _ _ _ _ _ _ _ _ _)
      | (with_reducible exact LeO.refl _)
      | (with_reducible exact LeO.none _)
      | (with_reducible refine LeO.ite ?_ ?_)
      | (with_reducible refine LeO.bind ?_ (fun _ => ?_))
      | exact ih0 _ _ _ _ _ _ _ _ _ _ _ _ _ _ _ _ _
      | exact ih1 _ _ _ _ _ _ _ _ _ _ _ _ _ _ _ _ _
      | exact ih2 _ _ _ _ _ _ _ _ _ _ _ _ _ _ _ _ _
      | exact spec_Meet.mono _ _ _ _ _ _ _ _ _ _ _ _ _ _ _ _ _
      | exact LeO.none _
      | refine LeO.ite ?_ ?_
      | refine LeO.bind ?_ (fun _ => ?_)
    · intro y0 y1 y2 y3 y4 y5 y6 y7 y8 y9 y10 y11 y12 y13 y14 y15 y16
      unfold spec_Without.j1
      repeat' first
      | (with_reducible exact ih0 _ _ _ _ _ _ _ _ _ _ _ _ _ _ _ _ _)
      | (with_reducible exact ih1 _ _ _ _ _ _ _ _ _ _ _ _ _ _ _ _ _)
      | (with_reducible exact ih2 _ _ _ _ _ _ _ _ _ _ _ _ _ _ _ _ _)
      | (with_reducible exact spec_Meet.mono _ _ _ _ _ _ _ _ _ _ _ _ _ _ _ _ _)
      | (with_reducible exact LeO.refl _)
      | (with_reducible exact LeO.none _)
      | (with_reducible refine LeO.ite ?_ ?_)
      | (with_reducible refine LeO.bind ?_ (fun _ => ?_))
      | exact ih0 _ _ _ _ _ _ _ _ _ _ _ _ _ _ _ _ _
      | exact ih1 _ _ _ _ _ _ _ _ _ _ _ _ _ _ _ _ _
      | exact ih2 _ _ _ _ _ _ _ _ _ _ _ _ _ _ _ _ _
      | exact spec_Meet.mono _ _ _ _ _ _ _ _ _ _ _ _ _ _ _ _ _
      | exact LeO.none _
      | refine LeO.ite ?_ ?_
      | refine LeO.bind ?_ (fun _ => ?_)
    · intro y0 y1 y2 y3 y4 y5 y6 y7 y8 y9 y10 y11 y12 y13 y14 y15 y16
      unfold spec_Without.j2
      repeat' first
      | (with_reducible exact ih0 _ _ _ _ _ _ _ _ _ _ _ _ _ _ _ _ _)
      | (with_reducible exact ih1 _ _ _ _ _ _ _ _ _ _ _ _ _ _ _ _ _)
      | (with_reducible exact ih2 _ _ _ _ _ _ _ _ _ _ _ _ _ _ _ _ _)
      | (with_reducible exact spec_Meet.mono _ _ _ _ _ _ _ _ _ _ _ _ _ _ _ _ _)
      | (with_reducible exact LeO.refl _)
      | (with_reducible exact LeO.none _)
      | (with_reducible refine LeO.ite ?_ ?_)
      | (with_reducible refine LeO.bind ?_ (fun _ => ?_))
      | exact ih0 _ _ _ _ _ _ _ _ _ _ _ _ _ _ _ _ _
      | exact ih1 _ _ _ _ _ _ _ _ _ _ _ _ _ _ _ _ _
      | exact ih2 _ _ _ _ _ _ _ _ _ _ _ _ _ _ _ _ _
      | exact spec_Meet.mono _ _ _ _ _ _ _ _ _ _ _ _ _ _ _ _ _
      | exact LeO.none _
      | refine LeO.ite ?_ ?_
      | refine LeO.bind ?_ (fun _ => ?_)

theorem spec_Without.mono : ∀ a0 a1 a2 a3 a4 a5 a6 a7 a8 a9 a10 a11 a12 a13 a14 a15 k, LeO (spec_Without.f k a0 a1 a2 a3 a4 a5 a6 a7 a8 a9 a10 a11 a12 a13 a14 a15) (spec_Without.f (k + 1) a0 a1 a2 a3 a4 a5 a6 a7 a8 a9 a10 a11 a12 a13 a14 a15) := by
  intro a0 a1 a2 a3 a4 a5 a6 a7 a8 a9 a10 a11 a12 a13 a14 a15 k
  obtain ⟨ih0, ih1, ih2⟩ := spec_Without.mono_l k
  unfold spec_Without.f
  repeat' first
      | (with_reducible exact ih0 _ _ _ _ _ _ _ _ _ _ _ _ _ _ _ _ _)
      | (with_reducible exact ih1 _ _ _ _ _ _ _ _ _ _ _ _ _ _ _ _ _)
      | (with_reducible exact ih2 _ _ _ _ _ _ _ _ _ _ _ _ _ _ _ _ _)
      | (with_reducible exact spec_Meet.mono _ _ _ _ _ _ _ _ _ _ _ _ _ _ _ _ _)
      | (with_reducible exact LeO.refl _)
      | (with_reducible exact LeO.none _)
      | (with_reducible refine LeO.ite ?_ ?_)
      | (with_reducible refine LeO.bind ?_ (fun _ => ?_))
      | exact ih0 _ _ _ _ _ _ _ _ _ _ _ _ _ _ _ _ _
      | exact ih1 _ _ _ _ _ _ _ _ _ _ _ _ _ _ _ _ _
      | exact ih2 _ _ _ _ _ _ _ _ _ _ _ _ _ _ _ _ _
      | exact spec_Meet.mono _ _ _ _ _ _ _ _ _ _ _ _ _ _ _ _ _
      | exact LeO.none _
      | refine LeO.ite ?_ ?_
      | refine LeO.bind ?_ (fun _ => ?_)

end Go.Proofs.Ytojfkjggpdlngaa.PFnExactWithout
