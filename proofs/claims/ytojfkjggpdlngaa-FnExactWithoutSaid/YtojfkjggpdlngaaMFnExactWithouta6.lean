/- Functions of the program as Lean functions, and proofs that the Go code comes to their answers: for the law FnExactWithout; made out of the print by a program of mine (compact.py). No conditions but each theorem's own. -/
import Derived.Test.YtojfkjggpdlngaaMFnExactWithouta0
import Derived.Test.YtojfkjggpdlngaaMFnExactWithouta5
namespace Go.Proofs.Ytojfkjggpdlngaa.PFnExactWithout
open Go.RowKit Go.Proofs.YtojfkjggpdlngaaW.PrintWords Go.Proofs.YtojfkjggpdlngaaW.PrintLast Go.Proofs.YtojfkjggpdlngaaW.PrintMore
attribute [local go_sem] max2_int min2_int max_two min_two max_three min_three max_four min_four   -- for this text's walks alone
set_option linter.unusedVariables false
set_option linter.unusedSimpArgs false

abbrev bt6_0 : Array Bool := #[false, false, false, false, false, false, false, false, false, false]
abbrev bt6_1 : Array Bool := #[true, false, false, false, false, false, false, false, false, false]
abbrev bt6_2 : Array Bool := #[true, true, false, false, false, false, false, false, false, false]
abbrev bt6_3 : Array Bool := #[true, true, true, false, false, false, false, false, false, false]
abbrev bt6_4 : Array Bool := #[true, true, true, false, true, false, false, false, false, false]
abbrev bt6_5 : Array Bool := #[true, true, true, false, true, true, false, false, false, false]
abbrev bt6_6 : Array Bool := #[true, true, true, false, true, true, true, false, false, false]
abbrev bt6_7 : Array Bool := #[true, true, true, true, true, true, true, false, false, false]
abbrev bt6_8 : Array Bool := #[true, true, true, true, true, true, true, true, false, false]
abbrev bt6_9 : Array Bool := #[true, true, true, true, true, true, true, true, true, false]
abbrev bt6_10 : Array Bool := #[true, true, true, true, true, true, true, true, true, true]
theorem laws_eqAreaS.mono_l : ∀ k, (∀ y0 y1 y2, LeO (laws_eqAreaS.l0 k y0 y1 y2) (laws_eqAreaS.l0 (k + 1) y0 y1 y2))
  | 0 => fun _ _ _ r h => by simp [laws_eqAreaS.l0] at h
  | k + 1 => by
    have ih0 := laws_eqAreaS.mono_l k
    · intro y0 y1 y2
      unfold laws_eqAreaS.l0
      repeat' first
      | (with_reducible exact ih0 _ _ _)
      | (with_reducible exact LeO.refl _)
      | (with_reducible exact LeO.none _)
      | (with_reducible refine LeO.ite ?_ ?_)
      | (with_reducible refine LeO.bind ?_ (fun _ => ?_))
      | exact ih0 _ _ _
      | exact LeO.none _
      | refine LeO.ite ?_ ?_
      | refine LeO.bind ?_ (fun _ => ?_)

theorem laws_eqAreaS.mono : ∀ a0 a1 k, LeO (laws_eqAreaS.f k a0 a1) (laws_eqAreaS.f (k + 1) a0 a1) := by
  intro a0 a1 k
  have ih0 := laws_eqAreaS.mono_l k
  unfold laws_eqAreaS.f
  repeat' first
      | (with_reducible exact ih0 _ _ _)
      | (with_reducible exact LeO.refl _)
      | (with_reducible exact LeO.none _)
      | (with_reducible refine LeO.ite ?_ ?_)
      | (with_reducible refine LeO.bind ?_ (fun _ => ?_))
      | exact ih0 _ _ _
      | exact LeO.none _
      | refine LeO.ite ?_ ?_
      | refine LeO.bind ?_ (fun _ => ?_)

def laws_eqAreaS.T6 : Bool × List (List Nat × List Nat) := (true, [([], []), ([], []), ([0, 1], [0, 1]), ([2], [2]), ([], []), ([], []), ([4, 5], [4, 5]), ([6], [6]), ([3, 7], [3, 7]), ([8], [8])])

def laws_eqAreaS.B6 : List Nat := [0, 0, 3, 7, 0, 0, 48, 112, 255, 511]

theorem laws_eqAreaS.tab6 : rtab .any (opsOf Try.f28 6) = laws_eqAreaS.T6 := by kernel_rfl

theorem laws_eqAreaS.bits6 : waitsOk laws_eqAreaS.T6.2 laws_eqAreaS.B6 = true := by kernel_rfl

set_option maxHeartbeats 8000000 in
set_option maxRecDepth 100000 in
theorem laws_eqAreaS.calls (k : Nat) (A0 : Option Addr) (c0 : Nat) (l0 : List (S33)) (A1 : Option Addr) (c1 : Nat) (l1 : List (S33)) (r : Bool) (w : World) (hr0 : Kd.C k33 w A0 l0.length l0) (hc0 : l0.length ≤ c0) (hr1 : Kd.C k33 w A1 l1.length l1) (hc1 : l1.length ≤ c1) (h : laws_eqAreaS.f k l0 l1 = some r) :
    Calls Try.prog 28 #[.slice A0 l0.length c0, .slice A1 l1.length c1] w fun e w' => e = .returned (.bool r) ∧ Below w.heap.size w w' := by
  have hu33 := Try.underlying33
  have HR0 := Aside0.mk hr0
  have HC0 := Aside0.mk hc0
  clear hr0 hc0
  have HR1 := Aside0.mk hr1
  have HC1 := Aside0.mk hc1
  clear hr1 hc1
  have HB := Aside0.mk (Below.refl w.heap.size w)
  have H : (if (l0.length : Int) = (l1.length : Int) then (laws_eqAreaS.l0 k l0 l1 0) else (some false)) = some r := h
  clear h
  by_cases c3 : (l0.length : Int) = (l1.length : Int)
  · rw [if_pos c3] at H
    have c3b0 : ((l0.length : Int) == (l1.length : Int)) = true := beq_iff_eq.mpr c3
    have c3b1 : ((l0.length : Int) != (l1.length : Int)) = false := bne_eq_false_iff_eq.mpr c3
    have c3b2 : (l0.length == l1.length) = true := by first | simpa using c3 | (simp at c3 ⊢; omega)
    clear c3
    have H' := Aside0.mk H
    clear H
    go_enter Try.func28, Try.ntmps28
    go_wp2
    go_loopg [5] k (fun kq v5 w' => ∃ (x5_1 : Int), v5 = .int .i64 x5_1 ∧ Aside0 (laws_eqAreaS.l0 kq l0 l1 x5_1 = some r) ∧ Aside0 (kq ≤ k) ∧ Aside0 (Below w.heap.size w w'))
    case atStart => exact ⟨(0), (by first | rfl | (simp; done) | (simp [*]; done) | (simp; unfold wrap64; omega)), H', ⟨Nat.le_refl _⟩, ⟨by repeat (first | (with_reducible first | exact HB.out | apply below_alloc | apply pw_below_drewN | apply below_drew1) | exact HB.out)⟩⟩
    case round =>
      clear H'
      try clear c1
      try clear c2
      try clear p2
      try clear c3
      try clear c3b0
      try clear c3b1
      try clear c3b2
      obtain ⟨x5_1, rfl, HA, HK1, HB⟩ := hrel
      cases gk with
      | zero => exact absurd HA.out (by simp [laws_eqAreaS.l0])
      | succ k1 =>
        have H := HA.out
        clear HA
        simp only [laws_eqAreaS.l0] at H
        by_cases c4 : x5_1 < (l0.length : Int)
        · rw [if_pos c4] at H
          have c4b0 : decide (x5_1 < (l0.length : Int)) = true := decide_eq_true c4
          clear c4
          by_cases c5 : 0 ≤ x5_1
          · rw [if_pos c5] at H
            have c5b0 : decide (0 ≤ x5_1) = true := decide_eq_true c5
            clear c5
            by_cases c6 : x5_1 < (l1.length : Int)
            · rw [if_pos c6] at H
              have c6b0 : decide (x5_1 < (l1.length : Int)) = true := decide_eq_true c6
              clear c6
              replace H := Option.bind_eq_some_iff.mp H
              obtain ⟨t302, A70, H⟩ := H
              replace H : (if t302 = true then (laws_eqAreaS.l0 k1 l0 l1 (wrap64 (x5_1 + 1))) else (some false)) = some r := H
              have A7 := Aside0.mk A70
              clear A70
              by_cases c8 : t302 = true
              · subst c8
                have H1 : (laws_eqAreaS.l0 k1 l0 l1 (wrap64 (x5_1 + 1))) = some r := by rw [if_pos rfl] at H; exact H
                clear H
                have H := H1
                clear H1
                have H' := Aside0.mk H
                clear H
                try go_wp2
                have n0_ := Aside0.mk (below_drew1 HB.out)
                clear HB
                have HB := n0_
                clear n0_
                have p300 : 0 ≤ (x5_1 : Int) := of_decide_eq_true (by first | (with_reducible assumption) | assumption)
                have q300 : x5_1 < (l0.length : Int) := of_decide_eq_true (by first | (with_reducible assumption) | assumption)
                obtain ⟨ad300, e300, hx300_0, hx300_1, hx300_2, hx300_3, hx300_4, hx300_5, hx300_6, hx300_7⟩ := at_T33 HR0.out x5_1 p300 q300
                have hw300_7 := hx300_7
                have hw300_6 := hx300_6
                have hw300_5 := hx300_5
                have hw300_4 := hx300_4
                have hw300_3 := hx300_3
                have hw300_2 := hx300_2
                have hw300_1 := hx300_1
                have hw300_0 := hx300_0
                cases e300
                replace hx300_0 := (HB.out.cell (World.block_lt_of_cell? w _ hx300_0)).trans hx300_0
                replace hx300_1 := (HB.out.cell (World.block_lt_of_cell? w _ hx300_1)).trans hx300_1
                replace hx300_2 := (HB.out.cell (World.block_lt_of_cell? w _ hx300_2)).trans hx300_2
                replace hx300_3 := (HB.out.cell (World.block_lt_of_cell? w _ hx300_3)).trans hx300_3
                replace hx300_4 := (HB.out.cell (World.block_lt_of_cell? w _ hx300_4)).trans hx300_4
                replace hx300_5 := (HB.out.cell (World.block_lt_of_cell? w _ hx300_5)).trans hx300_5
                replace hx300_6 := (HB.out.cell (World.block_lt_of_cell? w _ hx300_6)).trans hx300_6
                replace hx300_7 := (HB.out.cell (World.block_lt_of_cell? w _ hx300_7)).trans hx300_7
                replace p300 := eq_true p300
                replace q300 := eq_true q300
                have p301 : 0 ≤ (x5_1 : Int) := of_decide_eq_true (by first | (with_reducible assumption) | assumption)
                have q301 : x5_1 < (l1.length : Int) := of_decide_eq_true (by first | (with_reducible assumption) | assumption)
                obtain ⟨ad301, e301, hx301_0, hx301_1, hx301_2, hx301_3, hx301_4, hx301_5, hx301_6, hx301_7⟩ := at_T33 HR1.out x5_1 p301 q301
                have hw301_7 := hx301_7
                have hw301_6 := hx301_6
                have hw301_5 := hx301_5
                have hw301_4 := hx301_4
                have hw301_3 := hx301_3
                have hw301_2 := hx301_2
                have hw301_1 := hx301_1
                have hw301_0 := hx301_0
                cases e301
                replace hx301_0 := (HB.out.cell (World.block_lt_of_cell? w _ hx301_0)).trans hx301_0
                replace hx301_1 := (HB.out.cell (World.block_lt_of_cell? w _ hx301_1)).trans hx301_1
                replace hx301_2 := (HB.out.cell (World.block_lt_of_cell? w _ hx301_2)).trans hx301_2
                replace hx301_3 := (HB.out.cell (World.block_lt_of_cell? w _ hx301_3)).trans hx301_3
                replace hx301_4 := (HB.out.cell (World.block_lt_of_cell? w _ hx301_4)).trans hx301_4
                replace hx301_5 := (HB.out.cell (World.block_lt_of_cell? w _ hx301_5)).trans hx301_5
                replace hx301_6 := (HB.out.cell (World.block_lt_of_cell? w _ hx301_6)).trans hx301_6
                replace hx301_7 := (HB.out.cell (World.block_lt_of_cell? w _ hx301_7)).trans hx301_7
                replace p301 := eq_true p301
                replace q301 := eq_true q301
                refine start_ (n := 10) (S := fun w' => w'.cell? (ad300.add ((x5_1).toNat * 8)) = some (.int .i64 ((rd_T33 l0 x5_1).f0.f0)) ∧ w'.cell? ⟨(ad300.add ((x5_1).toNat * 8)).block, (ad300.add ((x5_1).toNat * 8)).off + 1, none⟩ = some (.int .i64 ((rd_T33 l0 x5_1).f0.f1)) ∧ w'.cell? ⟨(ad300.add ((x5_1).toNat * 8)).block, (ad300.add ((x5_1).toNat * 8)).off + 2, none⟩ = some (.bool ((rd_T33 l0 x5_1).f0.f2)) ∧ w'.cell? ⟨(ad300.add ((x5_1).toNat * 8)).block, (ad300.add ((x5_1).toNat * 8)).off + 3, none⟩ = some (.bool ((rd_T33 l0 x5_1).f0.f3)) ∧ w'.cell? ⟨(ad300.add ((x5_1).toNat * 8)).block, (ad300.add ((x5_1).toNat * 8)).off + 4, none⟩ = some (.int .i64 ((rd_T33 l0 x5_1).f1.f0)) ∧ w'.cell? ⟨(ad300.add ((x5_1).toNat * 8)).block, (ad300.add ((x5_1).toNat * 8)).off + 5, none⟩ = some (.int .i64 ((rd_T33 l0 x5_1).f1.f1)) ∧ w'.cell? ⟨(ad300.add ((x5_1).toNat * 8)).block, (ad300.add ((x5_1).toNat * 8)).off + 6, none⟩ = some (.bool ((rd_T33 l0 x5_1).f1.f2)) ∧ w'.cell? ⟨(ad300.add ((x5_1).toNat * 8)).block, (ad300.add ((x5_1).toNat * 8)).off + 7, none⟩ = some (.bool ((rd_T33 l0 x5_1).f1.f3)) ∧ w'.cell? (ad301.add ((x5_1).toNat * 8)) = some (.int .i64 ((rd_T33 l1 x5_1).f0.f0)) ∧ w'.cell? ⟨(ad301.add ((x5_1).toNat * 8)).block, (ad301.add ((x5_1).toNat * 8)).off + 1, none⟩ = some (.int .i64 ((rd_T33 l1 x5_1).f0.f1)) ∧ w'.cell? ⟨(ad301.add ((x5_1).toNat * 8)).block, (ad301.add ((x5_1).toNat * 8)).off + 2, none⟩ = some (.bool ((rd_T33 l1 x5_1).f0.f2)) ∧ w'.cell? ⟨(ad301.add ((x5_1).toNat * 8)).block, (ad301.add ((x5_1).toNat * 8)).off + 3, none⟩ = some (.bool ((rd_T33 l1 x5_1).f0.f3)) ∧ w'.cell? ⟨(ad301.add ((x5_1).toNat * 8)).block, (ad301.add ((x5_1).toNat * 8)).off + 4, none⟩ = some (.int .i64 ((rd_T33 l1 x5_1).f1.f0)) ∧ w'.cell? ⟨(ad301.add ((x5_1).toNat * 8)).block, (ad301.add ((x5_1).toNat * 8)).off + 5, none⟩ = some (.int .i64 ((rd_T33 l1 x5_1).f1.f1)) ∧ w'.cell? ⟨(ad301.add ((x5_1).toNat * 8)).block, (ad301.add ((x5_1).toNat * 8)).off + 6, none⟩ = some (.bool ((rd_T33 l1 x5_1).f1.f2)) ∧ w'.cell? ⟨(ad301.add ((x5_1).toNat * 8)).block, (ad301.add ((x5_1).toNat * 8)).off + 7, none⟩ = some (.bool ((rd_T33 l1 x5_1).f1.f3))) (ds := []) bt6_0 (by kernel_rfl) rfl rfl ⟨((HB.out.cell (World.block_lt_of_cell? w _ hw300_0)).trans hw300_0), ((HB.out.cell (World.block_lt_of_cell? w _ hw300_1)).trans hw300_1), ((HB.out.cell (World.block_lt_of_cell? w _ hw300_2)).trans hw300_2), ((HB.out.cell (World.block_lt_of_cell? w _ hw300_3)).trans hw300_3), ((HB.out.cell (World.block_lt_of_cell? w _ hw300_4)).trans hw300_4), ((HB.out.cell (World.block_lt_of_cell? w _ hw300_5)).trans hw300_5), ((HB.out.cell (World.block_lt_of_cell? w _ hw300_6)).trans hw300_6), ((HB.out.cell (World.block_lt_of_cell? w _ hw300_7)).trans hw300_7), ((HB.out.cell (World.block_lt_of_cell? w _ hw301_0)).trans hw301_0), ((HB.out.cell (World.block_lt_of_cell? w _ hw301_1)).trans hw301_1), ((HB.out.cell (World.block_lt_of_cell? w _ hw301_2)).trans hw301_2), ((HB.out.cell (World.block_lt_of_cell? w _ hw301_3)).trans hw301_3), ((HB.out.cell (World.block_lt_of_cell? w _ hw301_4)).trans hw301_4), ((HB.out.cell (World.block_lt_of_cell? w _ hw301_5)).trans hw301_5), ((HB.out.cell (World.block_lt_of_cell? w _ hw301_6)).trans hw301_6), ((HB.out.cell (World.block_lt_of_cell? w _ hw301_7)).trans hw301_7)⟩ (fun hHeld => ?_); refine with_tabW laws_eqAreaS.tab6 laws_eqAreaS.bits6 (fun HT_ HW_ => ?_)
                generalize wr.drew = w9 at HB hx300_0 hx300_1 hx300_2 hx300_3 hx300_4 hx300_5 hx300_6 hx300_7 hx301_0 hx301_1 hx301_2 hx301_3 hx301_4 hx301_5 hx301_6 hx301_7 hHeld ⊢
                refine pure_ (i := 0) (N := some 17) (v := ?_) (a' := ?_) bt6_1 rfl rfl (any_of HT_.out (by kernel_rfl)) (fun _ _ _ h => h) (Or.inl ⟨by rfl, ?_⟩) ?_ ?_
                rotate_left
                · intro w'
                  go_simp
                  with_reducible rfl
                rotate_left
                · simp only [Act.put, List.setIfInBounds_toArray, List.set_cons_zero, List.set_cons_succ, i64_w, i32_w]
                  rfl
                refine pure_ (i := 1) (N := some 18) (v := ?_) (a' := ?_) bt6_2 rfl rfl (any_of HT_.out (by kernel_rfl)) (fun _ _ _ h => h) (Or.inl ⟨by rfl, ?_⟩) ?_ ?_
                rotate_left
                · intro w'
                  go_simp
                  with_reducible rfl
                rotate_left
                · simp only [Act.put, List.setIfInBounds_toArray, List.set_cons_zero, List.set_cons_succ, i64_w, i32_w]
                  rfl
                refine pure_ (i := 2) (N := some 19) (v := ?_) (a' := ?_) bt6_3 rfl rfl (any_of HT_.out (by kernel_rfl)) (fun _ _ _ h => h) (Or.inl ⟨by rfl, ?_⟩) ?_ ?_
                rotate_left
                · intro w'
                  go_simp
                  with_reducible rfl
                rotate_left
                · simp only [Act.put, List.setIfInBounds_toArray, List.set_cons_zero, List.set_cons_succ, i64_w, i32_w]
                  rfl
                refine pure_ (i := 4) (N := some 21) (v := ?_) (a' := ?_) bt6_4 rfl rfl (any_of HT_.out (by kernel_rfl)) (fun _ _ _ h => h) (Or.inl ⟨by rfl, ?_⟩) ?_ ?_
                rotate_left
                · intro w'
                  go_simp
                  with_reducible rfl
                rotate_left
                · simp only [Act.put, List.setIfInBounds_toArray, List.set_cons_zero, List.set_cons_succ, i64_w, i32_w]
                  rfl
                refine pure_ (i := 5) (N := some 22) (v := ?_) (a' := ?_) bt6_5 rfl rfl (any_of HT_.out (by kernel_rfl)) (fun _ _ _ h => h) (Or.inl ⟨by rfl, ?_⟩) ?_ ?_
                rotate_left
                · intro w'
                  go_simp
                  with_reducible rfl
                rotate_left
                · simp only [Act.put, List.setIfInBounds_toArray, List.set_cons_zero, List.set_cons_succ, i64_w, i32_w]
                  rfl
                refine pure_ (i := 6) (N := some 23) (v := ?_) (a' := ?_) bt6_6 rfl rfl (any_of HT_.out (by kernel_rfl)) (fun _ _ _ h => h) (Or.inl ⟨by rfl, ?_⟩) ?_ ?_
                rotate_left
                · intro w'
                  go_simp
                  with_reducible rfl
                rotate_left
                · simp only [Act.put, List.setIfInBounds_toArray, List.set_cons_zero, List.set_cons_succ, i64_w, i32_w]
                  rfl
                refine take_ (i := 3) (N := some 20) (v := ?_) (a' := ?_) bt6_7 rfl rfl (take_ofW HT_.out HW_.out (by kernel_rfl)) (fun _ _ _ h => h) (Or.inl ⟨by rfl, ?_⟩) hHeld ?_ ?_
                rotate_left
                · rintro w' ⟨s0, s1, s2, s3, s4, s5, s6, s7, s8, s9, s10, s11, s12, s13, s14, s15⟩
                  go_simp
                  with_reducible rfl
                rotate_left
                · simp only [Act.put, List.setIfInBounds_toArray, List.set_cons_zero, List.set_cons_succ, i64_w, i32_w]
                  rfl
                refine take_ (i := 7) (N := some 24) (v := ?_) (a' := ?_) bt6_8 rfl rfl (take_ofW HT_.out HW_.out (by kernel_rfl)) (fun _ _ _ h => h) (Or.inl ⟨by rfl, ?_⟩) hHeld ?_ ?_
                rotate_left
                · rintro w' ⟨s0, s1, s2, s3, s4, s5, s6, s7, s8, s9, s10, s11, s12, s13, s14, s15⟩
                  go_simp
                  with_reducible rfl
                rotate_left
                · simp only [Act.put, List.setIfInBounds_toArray, List.set_cons_zero, List.set_cons_succ, i64_w, i32_w]
                  rfl
                refine one_ (i := 8) (N := some 25) bt6_9 rfl rfl (one_of HT_.out (by kernel_rfl)) (by decide) (fun K hK => ?_)
                refine goes_ Try.func66 (by kernel_rfl) rfl #[.agg #[.int .i64 ((rd_T33 l0 x5_1).f0.f0), .int .i64 ((rd_T33 l0 x5_1).f0.f1), .bool ((rd_T33 l0 x5_1).f0.f2), .bool ((rd_T33 l0 x5_1).f0.f3), .int .i64 ((rd_T33 l0 x5_1).f1.f0), .int .i64 ((rd_T33 l0 x5_1).f1.f1), .bool ((rd_T33 l0 x5_1).f1.f2), .bool ((rd_T33 l0 x5_1).f1.f3)], .agg #[.int .i64 ((rd_T33 l1 x5_1).f0.f0), .int .i64 ((rd_T33 l1 x5_1).f0.f1), .bool ((rd_T33 l1 x5_1).f0.f2), .bool ((rd_T33 l1 x5_1).f0.f3), .int .i64 ((rd_T33 l1 x5_1).f1.f0), .int .i64 ((rd_T33 l1 x5_1).f1.f1), .bool ((rd_T33 l1 x5_1).f1.f2), .bool ((rd_T33 l1 x5_1).f1.f3)]] (by rfl) rfl rfl (by (try simp only [List.map_toArray, List.map_cons, List.map_nil]); first | done | rfl | (simp only [List.length_drop, List.length_take]; rfl)) ?_
                with_reducible refine (laws_eqArea.calls ((rd_T33 l0 x5_1).f0.f0) ((rd_T33 l0 x5_1).f0.f1) ((rd_T33 l0 x5_1).f0.f2) ((rd_T33 l0 x5_1).f0.f3) ((rd_T33 l0 x5_1).f1.f0) ((rd_T33 l0 x5_1).f1.f1) ((rd_T33 l0 x5_1).f1.f2) ((rd_T33 l0 x5_1).f1.f3) ((rd_T33 l1 x5_1).f0.f0) ((rd_T33 l1 x5_1).f0.f1) ((rd_T33 l1 x5_1).f0.f2) ((rd_T33 l1 x5_1).f0.f3) ((rd_T33 l1 x5_1).f1.f0) ((rd_T33 l1 x5_1).f1.f1) ((rd_T33 l1 x5_1).f1.f2) ((rd_T33 l1 x5_1).f1.f3) true _ A7.out).mono ?_
                rintro e w10 ⟨rfl, hb⟩
                refine ⟨_, rfl, ?_⟩
                have n0_ := Aside0.mk (below_step (by repeat (first | (with_reducible first | exact HB.out | apply below_alloc | apply pw_below_drewN | apply below_drew1) | exact HB.out)) hb)
                clear HB
                have HB := n0_
                clear n0_
                (try clear hb)
                (try clear hb2)
                (try clear hk)
                (try clear hi)
                refine hK.out _ _ ⟨((HB.out.cell (World.block_lt_of_cell? w _ hw300_0)).trans hw300_0), ((HB.out.cell (World.block_lt_of_cell? w _ hw300_1)).trans hw300_1), ((HB.out.cell (World.block_lt_of_cell? w _ hw300_2)).trans hw300_2), ((HB.out.cell (World.block_lt_of_cell? w _ hw300_3)).trans hw300_3), ((HB.out.cell (World.block_lt_of_cell? w _ hw300_4)).trans hw300_4), ((HB.out.cell (World.block_lt_of_cell? w _ hw300_5)).trans hw300_5), ((HB.out.cell (World.block_lt_of_cell? w _ hw300_6)).trans hw300_6), ((HB.out.cell (World.block_lt_of_cell? w _ hw300_7)).trans hw300_7), ((HB.out.cell (World.block_lt_of_cell? w _ hw301_0)).trans hw301_0), ((HB.out.cell (World.block_lt_of_cell? w _ hw301_1)).trans hw301_1), ((HB.out.cell (World.block_lt_of_cell? w _ hw301_2)).trans hw301_2), ((HB.out.cell (World.block_lt_of_cell? w _ hw301_3)).trans hw301_3), ((HB.out.cell (World.block_lt_of_cell? w _ hw301_4)).trans hw301_4), ((HB.out.cell (World.block_lt_of_cell? w _ hw301_5)).trans hw301_5), ((HB.out.cell (World.block_lt_of_cell? w _ hw301_6)).trans hw301_6), ((HB.out.cell (World.block_lt_of_cell? w _ hw301_7)).trans hw301_7)⟩ (fun hHeld => ?_)
                clear hK K
                refine norm_ (a' := ?_) ?_ ?_
                rotate_left
                · show Act.put _ (some 25) _ = _
                  simp only [Act.put, List.setIfInBounds_toArray, List.set_cons_zero, List.set_cons_succ, i64_w, i32_w]
                  rfl
                refine pure_ (i := 9) (N := some 26) (v := ?_) (a' := ?_) bt6_10 rfl rfl (any_of HT_.out (by kernel_rfl)) (fun _ _ _ h => h) (Or.inl ⟨by rfl, ?_⟩) ?_ ?_
                rotate_left
                · intro w'
                  go_simp
                  with_reducible rfl
                rotate_left
                · simp only [Act.put, List.setIfInBounds_toArray, List.set_cons_zero, List.set_cons_succ, i64_w, i32_w]
                  rfl
                refine done_ (done_of HT_.out (by kernel_rfl)) ?_
                try go_wp2
                go_roundg k1
                case measure => have := HK1.out; omega
                case rel => exact ⟨(wrap64 (x5_1 + 1)), (by first | rfl | (simp; done) | (simp [*]; done) | (simp; unfold wrap64; omega)), H', ⟨by have := HK1.out; omega⟩, ⟨by repeat (first | (with_reducible first | exact HB.out | apply below_alloc | apply pw_below_drewN | apply below_drew1) | exact HB.out)⟩⟩
              · replace c8 := Bool.eq_false_iff.mpr c8
                subst c8
                have H1 : (some false) = some r := by rw [if_neg (show ¬ (false = true) by decide)] at H; exact H
                clear H
                have H := H1
                clear H1
                obtain rfl := Option.some.inj H
                try go_wp2
                have n0_ := Aside0.mk (below_drew1 HB.out)
                clear HB
                have HB := n0_
                clear n0_
                have p300 : 0 ≤ (x5_1 : Int) := of_decide_eq_true (by first | (with_reducible assumption) | assumption)
                have q300 : x5_1 < (l0.length : Int) := of_decide_eq_true (by first | (with_reducible assumption) | assumption)
                obtain ⟨ad300, e300, hx300_0, hx300_1, hx300_2, hx300_3, hx300_4, hx300_5, hx300_6, hx300_7⟩ := at_T33 HR0.out x5_1 p300 q300
                have hw300_7 := hx300_7
                have hw300_6 := hx300_6
                have hw300_5 := hx300_5
                have hw300_4 := hx300_4
                have hw300_3 := hx300_3
                have hw300_2 := hx300_2
                have hw300_1 := hx300_1
                have hw300_0 := hx300_0
                cases e300
                replace hx300_0 := (HB.out.cell (World.block_lt_of_cell? w _ hx300_0)).trans hx300_0
                replace hx300_1 := (HB.out.cell (World.block_lt_of_cell? w _ hx300_1)).trans hx300_1
                replace hx300_2 := (HB.out.cell (World.block_lt_of_cell? w _ hx300_2)).trans hx300_2
                replace hx300_3 := (HB.out.cell (World.block_lt_of_cell? w _ hx300_3)).trans hx300_3
                replace hx300_4 := (HB.out.cell (World.block_lt_of_cell? w _ hx300_4)).trans hx300_4
                replace hx300_5 := (HB.out.cell (World.block_lt_of_cell? w _ hx300_5)).trans hx300_5
                replace hx300_6 := (HB.out.cell (World.block_lt_of_cell? w _ hx300_6)).trans hx300_6
                replace hx300_7 := (HB.out.cell (World.block_lt_of_cell? w _ hx300_7)).trans hx300_7
                replace p300 := eq_true p300
                replace q300 := eq_true q300
                have p301 : 0 ≤ (x5_1 : Int) := of_decide_eq_true (by first | (with_reducible assumption) | assumption)
                have q301 : x5_1 < (l1.length : Int) := of_decide_eq_true (by first | (with_reducible assumption) | assumption)
                obtain ⟨ad301, e301, hx301_0, hx301_1, hx301_2, hx301_3, hx301_4, hx301_5, hx301_6, hx301_7⟩ := at_T33 HR1.out x5_1 p301 q301
                have hw301_7 := hx301_7
                have hw301_6 := hx301_6
                have hw301_5 := hx301_5
                have hw301_4 := hx301_4
                have hw301_3 := hx301_3
                have hw301_2 := hx301_2
                have hw301_1 := hx301_1
                have hw301_0 := hx301_0
                cases e301
                replace hx301_0 := (HB.out.cell (World.block_lt_of_cell? w _ hx301_0)).trans hx301_0
                replace hx301_1 := (HB.out.cell (World.block_lt_of_cell? w _ hx301_1)).trans hx301_1
                replace hx301_2 := (HB.out.cell (World.block_lt_of_cell? w _ hx301_2)).trans hx301_2
                replace hx301_3 := (HB.out.cell (World.block_lt_of_cell? w _ hx301_3)).trans hx301_3
                replace hx301_4 := (HB.out.cell (World.block_lt_of_cell? w _ hx301_4)).trans hx301_4
                replace hx301_5 := (HB.out.cell (World.block_lt_of_cell? w _ hx301_5)).trans hx301_5
                replace hx301_6 := (HB.out.cell (World.block_lt_of_cell? w _ hx301_6)).trans hx301_6
                replace hx301_7 := (HB.out.cell (World.block_lt_of_cell? w _ hx301_7)).trans hx301_7
                replace p301 := eq_true p301
                replace q301 := eq_true q301
                refine start_ (n := 10) (S := fun w' => w'.cell? (ad300.add ((x5_1).toNat * 8)) = some (.int .i64 ((rd_T33 l0 x5_1).f0.f0)) ∧ w'.cell? ⟨(ad300.add ((x5_1).toNat * 8)).block, (ad300.add ((x5_1).toNat * 8)).off + 1, none⟩ = some (.int .i64 ((rd_T33 l0 x5_1).f0.f1)) ∧ w'.cell? ⟨(ad300.add ((x5_1).toNat * 8)).block, (ad300.add ((x5_1).toNat * 8)).off + 2, none⟩ = some (.bool ((rd_T33 l0 x5_1).f0.f2)) ∧ w'.cell? ⟨(ad300.add ((x5_1).toNat * 8)).block, (ad300.add ((x5_1).toNat * 8)).off + 3, none⟩ = some (.bool ((rd_T33 l0 x5_1).f0.f3)) ∧ w'.cell? ⟨(ad300.add ((x5_1).toNat * 8)).block, (ad300.add ((x5_1).toNat * 8)).off + 4, none⟩ = some (.int .i64 ((rd_T33 l0 x5_1).f1.f0)) ∧ w'.cell? ⟨(ad300.add ((x5_1).toNat * 8)).block, (ad300.add ((x5_1).toNat * 8)).off + 5, none⟩ = some (.int .i64 ((rd_T33 l0 x5_1).f1.f1)) ∧ w'.cell? ⟨(ad300.add ((x5_1).toNat * 8)).block, (ad300.add ((x5_1).toNat * 8)).off + 6, none⟩ = some (.bool ((rd_T33 l0 x5_1).f1.f2)) ∧ w'.cell? ⟨(ad300.add ((x5_1).toNat * 8)).block, (ad300.add ((x5_1).toNat * 8)).off + 7, none⟩ = some (.bool ((rd_T33 l0 x5_1).f1.f3)) ∧ w'.cell? (ad301.add ((x5_1).toNat * 8)) = some (.int .i64 ((rd_T33 l1 x5_1).f0.f0)) ∧ w'.cell? ⟨(ad301.add ((x5_1).toNat * 8)).block, (ad301.add ((x5_1).toNat * 8)).off + 1, none⟩ = some (.int .i64 ((rd_T33 l1 x5_1).f0.f1)) ∧ w'.cell? ⟨(ad301.add ((x5_1).toNat * 8)).block, (ad301.add ((x5_1).toNat * 8)).off + 2, none⟩ = some (.bool ((rd_T33 l1 x5_1).f0.f2)) ∧ w'.cell? ⟨(ad301.add ((x5_1).toNat * 8)).block, (ad301.add ((x5_1).toNat * 8)).off + 3, none⟩ = some (.bool ((rd_T33 l1 x5_1).f0.f3)) ∧ w'.cell? ⟨(ad301.add ((x5_1).toNat * 8)).block, (ad301.add ((x5_1).toNat * 8)).off + 4, none⟩ = some (.int .i64 ((rd_T33 l1 x5_1).f1.f0)) ∧ w'.cell? ⟨(ad301.add ((x5_1).toNat * 8)).block, (ad301.add ((x5_1).toNat * 8)).off + 5, none⟩ = some (.int .i64 ((rd_T33 l1 x5_1).f1.f1)) ∧ w'.cell? ⟨(ad301.add ((x5_1).toNat * 8)).block, (ad301.add ((x5_1).toNat * 8)).off + 6, none⟩ = some (.bool ((rd_T33 l1 x5_1).f1.f2)) ∧ w'.cell? ⟨(ad301.add ((x5_1).toNat * 8)).block, (ad301.add ((x5_1).toNat * 8)).off + 7, none⟩ = some (.bool ((rd_T33 l1 x5_1).f1.f3))) (ds := []) bt6_0 (by kernel_rfl) rfl rfl ⟨((HB.out.cell (World.block_lt_of_cell? w _ hw300_0)).trans hw300_0), ((HB.out.cell (World.block_lt_of_cell? w _ hw300_1)).trans hw300_1), ((HB.out.cell (World.block_lt_of_cell? w _ hw300_2)).trans hw300_2), ((HB.out.cell (World.block_lt_of_cell? w _ hw300_3)).trans hw300_3), ((HB.out.cell (World.block_lt_of_cell? w _ hw300_4)).trans hw300_4), ((HB.out.cell (World.block_lt_of_cell? w _ hw300_5)).trans hw300_5), ((HB.out.cell (World.block_lt_of_cell? w _ hw300_6)).trans hw300_6), ((HB.out.cell (World.block_lt_of_cell? w _ hw300_7)).trans hw300_7), ((HB.out.cell (World.block_lt_of_cell? w _ hw301_0)).trans hw301_0), ((HB.out.cell (World.block_lt_of_cell? w _ hw301_1)).trans hw301_1), ((HB.out.cell (World.block_lt_of_cell? w _ hw301_2)).trans hw301_2), ((HB.out.cell (World.block_lt_of_cell? w _ hw301_3)).trans hw301_3), ((HB.out.cell (World.block_lt_of_cell? w _ hw301_4)).trans hw301_4), ((HB.out.cell (World.block_lt_of_cell? w _ hw301_5)).trans hw301_5), ((HB.out.cell (World.block_lt_of_cell? w _ hw301_6)).trans hw301_6), ((HB.out.cell (World.block_lt_of_cell? w _ hw301_7)).trans hw301_7)⟩ (fun hHeld => ?_); refine with_tabW laws_eqAreaS.tab6 laws_eqAreaS.bits6 (fun HT_ HW_ => ?_)
                generalize wr.drew = w11 at HB hx300_0 hx300_1 hx300_2 hx300_3 hx300_4 hx300_5 hx300_6 hx300_7 hx301_0 hx301_1 hx301_2 hx301_3 hx301_4 hx301_5 hx301_6 hx301_7 hHeld ⊢
                refine pure_ (i := 0) (N := some 17) (v := ?_) (a' := ?_) bt6_1 rfl rfl (any_of HT_.out (by kernel_rfl)) (fun _ _ _ h => h) (Or.inl ⟨by rfl, ?_⟩) ?_ ?_
                rotate_left
                · intro w'
                  go_simp
                  with_reducible rfl
                rotate_left
                · simp only [Act.put, List.setIfInBounds_toArray, List.set_cons_zero, List.set_cons_succ, i64_w, i32_w]
                  rfl
                refine pure_ (i := 1) (N := some 18) (v := ?_) (a' := ?_) bt6_2 rfl rfl (any_of HT_.out (by kernel_rfl)) (fun _ _ _ h => h) (Or.inl ⟨by rfl, ?_⟩) ?_ ?_
                rotate_left
                · intro w'
                  go_simp
                  with_reducible rfl
                rotate_left
                · simp only [Act.put, List.setIfInBounds_toArray, List.set_cons_zero, List.set_cons_succ, i64_w, i32_w]
                  rfl
                refine pure_ (i := 2) (N := some 19) (v := ?_) (a' := ?_) bt6_3 rfl rfl (any_of HT_.out (by kernel_rfl)) (fun _ _ _ h => h) (Or.inl ⟨by rfl, ?_⟩) ?_ ?_
                rotate_left
                · intro w'
                  go_simp
                  with_reducible rfl
                rotate_left
                · simp only [Act.put, List.setIfInBounds_toArray, List.set_cons_zero, List.set_cons_succ, i64_w, i32_w]
                  rfl
                refine pure_ (i := 4) (N := some 21) (v := ?_) (a' := ?_) bt6_4 rfl rfl (any_of HT_.out (by kernel_rfl)) (fun _ _ _ h => h) (Or.inl ⟨by rfl, ?_⟩) ?_ ?_
                rotate_left
                · intro w'
                  go_simp
                  with_reducible rfl
                rotate_left
                · simp only [Act.put, List.setIfInBounds_toArray, List.set_cons_zero, List.set_cons_succ, i64_w, i32_w]
                  rfl
                refine pure_ (i := 5) (N := some 22) (v := ?_) (a' := ?_) bt6_5 rfl rfl (any_of HT_.out (by kernel_rfl)) (fun _ _ _ h => h) (Or.inl ⟨by rfl, ?_⟩) ?_ ?_
                rotate_left
                · intro w'
                  go_simp
                  with_reducible rfl
                rotate_left
                · simp only [Act.put, List.setIfInBounds_toArray, List.set_cons_zero, List.set_cons_succ, i64_w, i32_w]
                  rfl
                refine pure_ (i := 6) (N := some 23) (v := ?_) (a' := ?_) bt6_6 rfl rfl (any_of HT_.out (by kernel_rfl)) (fun _ _ _ h => h) (Or.inl ⟨by rfl, ?_⟩) ?_ ?_
                rotate_left
                · intro w'
                  go_simp
                  with_reducible rfl
                rotate_left
                · simp only [Act.put, List.setIfInBounds_toArray, List.set_cons_zero, List.set_cons_succ, i64_w, i32_w]
                  rfl
                refine take_ (i := 3) (N := some 20) (v := ?_) (a' := ?_) bt6_7 rfl rfl (take_ofW HT_.out HW_.out (by kernel_rfl)) (fun _ _ _ h => h) (Or.inl ⟨by rfl, ?_⟩) hHeld ?_ ?_
                rotate_left
                · rintro w' ⟨s0, s1, s2, s3, s4, s5, s6, s7, s8, s9, s10, s11, s12, s13, s14, s15⟩
                  go_simp
                  with_reducible rfl
                rotate_left
                · simp only [Act.put, List.setIfInBounds_toArray, List.set_cons_zero, List.set_cons_succ, i64_w, i32_w]
                  rfl
                refine take_ (i := 7) (N := some 24) (v := ?_) (a' := ?_) bt6_8 rfl rfl (take_ofW HT_.out HW_.out (by kernel_rfl)) (fun _ _ _ h => h) (Or.inl ⟨by rfl, ?_⟩) hHeld ?_ ?_
                rotate_left
                · rintro w' ⟨s0, s1, s2, s3, s4, s5, s6, s7, s8, s9, s10, s11, s12, s13, s14, s15⟩
                  go_simp
                  with_reducible rfl
                rotate_left
                · simp only [Act.put, List.setIfInBounds_toArray, List.set_cons_zero, List.set_cons_succ, i64_w, i32_w]
                  rfl
                refine one_ (i := 8) (N := some 25) bt6_9 rfl rfl (one_of HT_.out (by kernel_rfl)) (by decide) (fun K hK => ?_)
                refine goes_ Try.func66 (by kernel_rfl) rfl #[.agg #[.int .i64 ((rd_T33 l0 x5_1).f0.f0), .int .i64 ((rd_T33 l0 x5_1).f0.f1), .bool ((rd_T33 l0 x5_1).f0.f2), .bool ((rd_T33 l0 x5_1).f0.f3), .int .i64 ((rd_T33 l0 x5_1).f1.f0), .int .i64 ((rd_T33 l0 x5_1).f1.f1), .bool ((rd_T33 l0 x5_1).f1.f2), .bool ((rd_T33 l0 x5_1).f1.f3)], .agg #[.int .i64 ((rd_T33 l1 x5_1).f0.f0), .int .i64 ((rd_T33 l1 x5_1).f0.f1), .bool ((rd_T33 l1 x5_1).f0.f2), .bool ((rd_T33 l1 x5_1).f0.f3), .int .i64 ((rd_T33 l1 x5_1).f1.f0), .int .i64 ((rd_T33 l1 x5_1).f1.f1), .bool ((rd_T33 l1 x5_1).f1.f2), .bool ((rd_T33 l1 x5_1).f1.f3)]] (by rfl) rfl rfl (by (try simp only [List.map_toArray, List.map_cons, List.map_nil]); first | done | rfl | (simp only [List.length_drop, List.length_take]; rfl)) ?_
                with_reducible refine (laws_eqArea.calls ((rd_T33 l0 x5_1).f0.f0) ((rd_T33 l0 x5_1).f0.f1) ((rd_T33 l0 x5_1).f0.f2) ((rd_T33 l0 x5_1).f0.f3) ((rd_T33 l0 x5_1).f1.f0) ((rd_T33 l0 x5_1).f1.f1) ((rd_T33 l0 x5_1).f1.f2) ((rd_T33 l0 x5_1).f1.f3) ((rd_T33 l1 x5_1).f0.f0) ((rd_T33 l1 x5_1).f0.f1) ((rd_T33 l1 x5_1).f0.f2) ((rd_T33 l1 x5_1).f0.f3) ((rd_T33 l1 x5_1).f1.f0) ((rd_T33 l1 x5_1).f1.f1) ((rd_T33 l1 x5_1).f1.f2) ((rd_T33 l1 x5_1).f1.f3) false _ A7.out).mono ?_
                rintro e w12 ⟨rfl, hb⟩
                refine ⟨_, rfl, ?_⟩
                have n0_ := Aside0.mk (below_step (by repeat (first | (with_reducible first | exact HB.out | apply below_alloc | apply pw_below_drewN | apply below_drew1) | exact HB.out)) hb)
                clear HB
                have HB := n0_
                clear n0_
                (try clear hb)
                (try clear hb2)
                (try clear hk)
                (try clear hi)
                refine hK.out _ _ ⟨((HB.out.cell (World.block_lt_of_cell? w _ hw300_0)).trans hw300_0), ((HB.out.cell (World.block_lt_of_cell? w _ hw300_1)).trans hw300_1), ((HB.out.cell (World.block_lt_of_cell? w _ hw300_2)).trans hw300_2), ((HB.out.cell (World.block_lt_of_cell? w _ hw300_3)).trans hw300_3), ((HB.out.cell (World.block_lt_of_cell? w _ hw300_4)).trans hw300_4), ((HB.out.cell (World.block_lt_of_cell? w _ hw300_5)).trans hw300_5), ((HB.out.cell (World.block_lt_of_cell? w _ hw300_6)).trans hw300_6), ((HB.out.cell (World.block_lt_of_cell? w _ hw300_7)).trans hw300_7), ((HB.out.cell (World.block_lt_of_cell? w _ hw301_0)).trans hw301_0), ((HB.out.cell (World.block_lt_of_cell? w _ hw301_1)).trans hw301_1), ((HB.out.cell (World.block_lt_of_cell? w _ hw301_2)).trans hw301_2), ((HB.out.cell (World.block_lt_of_cell? w _ hw301_3)).trans hw301_3), ((HB.out.cell (World.block_lt_of_cell? w _ hw301_4)).trans hw301_4), ((HB.out.cell (World.block_lt_of_cell? w _ hw301_5)).trans hw301_5), ((HB.out.cell (World.block_lt_of_cell? w _ hw301_6)).trans hw301_6), ((HB.out.cell (World.block_lt_of_cell? w _ hw301_7)).trans hw301_7)⟩ (fun hHeld => ?_)
                clear hK K
                refine norm_ (a' := ?_) ?_ ?_
                rotate_left
                · show Act.put _ (some 25) _ = _
                  simp only [Act.put, List.setIfInBounds_toArray, List.set_cons_zero, List.set_cons_succ, i64_w, i32_w]
                  rfl
                refine pure_ (i := 9) (N := some 26) (v := ?_) (a' := ?_) bt6_10 rfl rfl (any_of HT_.out (by kernel_rfl)) (fun _ _ _ h => h) (Or.inl ⟨by rfl, ?_⟩) ?_ ?_
                rotate_left
                · intro w'
                  go_simp
                  with_reducible rfl
                rotate_left
                · simp only [Act.put, List.setIfInBounds_toArray, List.set_cons_zero, List.set_cons_succ, i64_w, i32_w]
                  rfl
                refine done_ (done_of HT_.out (by kernel_rfl)) ?_
                try go_wp2
                go_ret
                exact ⟨by first | rfl | (simp [errW_none, errW_some] <;> rfl) | (simp [*, errW_none, errW_some] <;> rfl), by repeat (first | (with_reducible first | exact HB.out | apply below_alloc | apply pw_below_drewN | apply below_drew1) | exact HB.out)⟩
            · rw [if_neg c6] at H
              exact absurd H (by simp)
          · rw [if_neg c5] at H
            exact absurd H (by simp)
        · rw [if_neg c4] at H
          have c4b0 : decide (x5_1 < (l0.length : Int)) = false := decide_eq_false c4
          clear c4
          obtain rfl := Option.some.inj H
          go_wp2
          go_ret
          exact ⟨by first | rfl | (simp [errW_none, errW_some] <;> rfl) | (simp [*, errW_none, errW_some] <;> rfl), by repeat (first | (with_reducible first | exact HB.out | apply below_alloc | apply pw_below_drewN | apply below_drew1) | exact HB.out)⟩
  · rw [if_neg c3] at H
    have c3b0 : ((l0.length : Int) == (l1.length : Int)) = false := beq_eq_false_iff_ne.mpr c3
    have c3b1 : ((l0.length : Int) != (l1.length : Int)) = true := bne_iff_ne.mpr c3
    have c3b2 : (l0.length == l1.length) = false := by first | simpa using c3 | (simp at c3 ⊢; omega)
    obtain rfl := Option.some.inj H
    go_enter Try.func28, Try.ntmps28
    go_wp2
    go_ret
    exact ⟨by first | rfl | (simp [errW_none, errW_some] <;> rfl) | (simp [*, errW_none, errW_some] <;> rfl), by repeat (first | (with_reducible first | exact HB.out | apply below_alloc | apply pw_below_drewN | apply below_drew1) | exact HB.out)⟩



/-! ### laws_markAreaS: function 29 -/

def laws_markAreaS.l0 : Nat → List (S33) → Int → Int → Option (Int × (List (S33)))
  | 0, _, _, _ => none
  | k + 1, x0, x1, x5 => if x5 < (x0.length : Int) then (if 0 ≤ x5 then ((some (x0.set (x5 : Int).toNat (⟨(⟨x1, (rd_T33 x0 x5).f0.f1, (rd_T33 x0 x5).f0.f2, (rd_T33 x0 x5).f0.f3⟩ : S31), (⟨(rd_T33 x0 x5).f1.f0, (rd_T33 x0 x5).f1.f1, (rd_T33 x0 x5).f1.f2, (rd_T33 x0 x5).f1.f3⟩ : S31)⟩ : S33) : List (S33))).bind fun y303 => ((some (y303.set (x5 : Int).toNat (⟨(⟨(rd_T33 y303 x5).f0.f0, wrap64 (x1 + 1), (rd_T33 y303 x5).f0.f2, (rd_T33 y303 x5).f0.f3⟩ : S31), (⟨(rd_T33 y303 x5).f1.f0, (rd_T33 y303 x5).f1.f1, (rd_T33 y303 x5).f1.f2, (rd_T33 y303 x5).f1.f3⟩ : S31)⟩ : S33) : List (S33))).bind fun y304 => ((some (y304.set (x5 : Int).toNat (⟨(⟨(rd_T33 y304 x5).f0.f0, (rd_T33 y304 x5).f0.f1, ((Int.tmod (wrap64 ((wrap64 (x1 + 1)) + 1)) 3) == 0), (rd_T33 y304 x5).f0.f3⟩ : S31), (⟨(rd_T33 y304 x5).f1.f0, (rd_T33 y304 x5).f1.f1, (rd_T33 y304 x5).f1.f2, (rd_T33 y304 x5).f1.f3⟩ : S31)⟩ : S33) : List (S33))).bind fun y305 => ((some (y305.set (x5 : Int).toNat (⟨(⟨(rd_T33 y305 x5).f0.f0, (rd_T33 y305 x5).f0.f1, (rd_T33 y305 x5).f0.f2, ((Int.tmod (wrap64 ((wrap64 ((wrap64 (x1 + 1)) + 1)) + 1)) 3) == 0)⟩ : S31), (⟨(rd_T33 y305 x5).f1.f0, (rd_T33 y305 x5).f1.f1, (rd_T33 y305 x5).f1.f2, (rd_T33 y305 x5).f1.f3⟩ : S31)⟩ : S33) : List (S33))).bind fun y306 => ((some (y306.set (x5 : Int).toNat (⟨(⟨(rd_T33 y306 x5).f0.f0, (rd_T33 y306 x5).f0.f1, (rd_T33 y306 x5).f0.f2, (rd_T33 y306 x5).f0.f3⟩ : S31), (⟨wrap64 ((wrap64 ((wrap64 ((wrap64 (x1 + 1)) + 1)) + 1)) + 1), (rd_T33 y306 x5).f1.f1, (rd_T33 y306 x5).f1.f2, (rd_T33 y306 x5).f1.f3⟩ : S31)⟩ : S33) : List (S33))).bind fun y307 => ((some (y307.set (x5 : Int).toNat (⟨(⟨(rd_T33 y307 x5).f0.f0, (rd_T33 y307 x5).f0.f1, (rd_T33 y307 x5).f0.f2, (rd_T33 y307 x5).f0.f3⟩ : S31), (⟨(rd_T33 y307 x5).f1.f0, wrap64 ((wrap64 ((wrap64 ((wrap64 ((wrap64 (x1 + 1)) + 1)) + 1)) + 1)) + 1), (rd_T33 y307 x5).f1.f2, (rd_T33 y307 x5).f1.f3⟩ : S31)⟩ : S33) : List (S33))).bind fun y308 => ((some (y308.set (x5 : Int).toNat (⟨(⟨(rd_T33 y308 x5).f0.f0, (rd_T33 y308 x5).f0.f1, (rd_T33 y308 x5).f0.f2, (rd_T33 y308 x5).f0.f3⟩ : S31), (⟨(rd_T33 y308 x5).f1.f0, (rd_T33 y308 x5).f1.f1, ((Int.tmod (wrap64 ((wrap64 ((wrap64 ((wrap64 ((wrap64 ((wrap64 (x1 + 1)) + 1)) + 1)) + 1)) + 1)) + 1)) 3) == 0), (rd_T33 y308 x5).f1.f3⟩ : S31)⟩ : S33) : List (S33))).bind fun y309 => (laws_markAreaS.l0 k (y309.set (x5 : Int).toNat (⟨(⟨(rd_T33 y309 x5).f0.f0, (rd_T33 y309 x5).f0.f1, (rd_T33 y309 x5).f0.f2, (rd_T33 y309 x5).f0.f3⟩ : S31), (⟨(rd_T33 y309 x5).f1.f0, (rd_T33 y309 x5).f1.f1, (rd_T33 y309 x5).f1.f2, ((Int.tmod (wrap64 ((wrap64 ((wrap64 ((wrap64 ((wrap64 ((wrap64 ((wrap64 (x1 + 1)) + 1)) + 1)) + 1)) + 1)) + 1)) + 1)) 3) == 0)⟩ : S31)⟩ : S33)) (wrap64 ((wrap64 ((wrap64 ((wrap64 ((wrap64 ((wrap64 ((wrap64 ((wrap64 (x1 + 1)) + 1)) + 1)) + 1)) + 1)) + 1)) + 1)) + 1)) (wrap64 (x5 + 1)))))))))) else (none)) else (some (x1, x0))

def laws_markAreaS.f (k : Nat) (l0 : List (S33)) (a1 : Int) : Option (Int × (List (S33))) := laws_markAreaS.l0 k l0 a1 0

theorem laws_markAreaS.mono_l : ∀ k, (∀ y0 y1 y2, LeO (laws_markAreaS.l0 k y0 y1 y2) (laws_markAreaS.l0 (k + 1) y0 y1 y2))
  | 0 => fun _ _ _ r h => by simp [laws_markAreaS.l0] at h
  | k + 1 => by
    have ih0 := laws_markAreaS.mono_l k
    · intro y0 y1 y2
      unfold laws_markAreaS.l0
      repeat' first
      | (with_reducible exact ih0 _ _ _)
      | (with_reducible exact LeO.refl _)
      | (with_reducible exact LeO.none _)
      | (with_reducible refine LeO.ite ?_ ?_)
      | (with_reducible refine LeO.bind ?_ (fun _ => ?_))
      | exact ih0 _ _ _
      | exact LeO.none _
      | refine LeO.ite ?_ ?_
      | refine LeO.bind ?_ (fun _ => ?_)

theorem laws_markAreaS.mono : ∀ a0 a1 k, LeO (laws_markAreaS.f k a0 a1) (laws_markAreaS.f (k + 1) a0 a1) := by
  intro a0 a1 k
  have ih0 := laws_markAreaS.mono_l k
  unfold laws_markAreaS.f
  repeat' first
      | (with_reducible exact ih0 _ _ _)
      | (with_reducible exact LeO.refl _)
      | (with_reducible exact LeO.none _)
      | (with_reducible refine LeO.ite ?_ ?_)
      | (with_reducible refine LeO.bind ?_ (fun _ => ?_))
      | exact ih0 _ _ _
      | exact LeO.none _
      | refine LeO.ite ?_ ?_
      | refine LeO.bind ?_ (fun _ => ?_)

end Go.Proofs.Ytojfkjggpdlngaa.PFnExactWithout
