/- Functions of the program as Lean functions, and proofs that the Go code comes to their answers: for the law FnExactDiffer; made out of the print by a program of mine (compact.py). No conditions but each theorem's own. -/
import Derived.Test.YtojfkjggpdlngaaMFnExactDiffera0
import Derived.Test.YtojfkjggpdlngaaMFnExactDiffera6
import Derived.Test.YtojfkjggpdlngaaMFnExactDiffera7
namespace Go.Proofs.Ytojfkjggpdlngaa.PFnExactDiffer
open List (map_toArray map_cons map_nil length_drop length_take set_cons_zero set_cons_succ setIfInBounds_toArray)
open Go.RowKit Go.Proofs.YtojfkjggpdlngaaW.PrintWords Go.Proofs.YtojfkjggpdlngaaW.PrintLast Go.Proofs.YtojfkjggpdlngaaW.PrintMore
attribute [local go_sem] max2_int min2_int max_two min_two max_three min_three max_four min_four   -- for this text's walks alone
set_option linter.unusedVariables false
set_option linter.unusedSimpArgs false

attribute [local go_sem high] eqA107
abbrev bt8_0 : Array Bool := #[false, false, false, false, false, false, false, false, false]
abbrev bt8_1 : Array Bool := #[true, false, false, false, false, false, false, false, false]
abbrev bt8_2 : Array Bool := #[true, true, false, false, false, false, false, false, false]
abbrev bt8_3 : Array Bool := #[true, true, true, false, false, false, false, false, false]
abbrev bt8_4 : Array Bool := #[true, true, true, true, false, false, false, false, false]
abbrev bt8_5 : Array Bool := #[true, true, true, true, true, false, false, false, false]
abbrev bt8_6 : Array Bool := #[true, true, true, true, true, false, true, false, false]
abbrev bt8_7 : Array Bool := #[true, true, true, true, true, true, true, false, false]
abbrev bt8_8 : Array Bool := #[true, true, true, true, true, true, true, true, false]
abbrev bt8_9 : Array Bool := #[true, true, true, true, true, true, true, true, true]
set_option maxHeartbeats 100000000 in
set_option maxRecDepth 100000 in
theorem laws_heldShownS.calls_p1 (k : Nat) (A0 : Option Addr) (c0 : Nat) (l0 : List (S107)) (a1 : Int) (r : Int) (w : World) (hr0 : Kd.C k107 w A0 l0.length l0) (hc0 : l0.length ≤ c0) (H : (laws_heldShownS.l0 k l0 a1 0) = some r) :
  Calls Try.prog 37 #[.slice A0 l0.length c0, .int .i64 a1] w fun e w' => e = .returned (.int .i64 r) ∧ Below w.heap.size w w' := by
 have HR0 := Aside0.mk hr0
 have HC0 := Aside0.mk hc0
 clear hr0 hc0
 have HB := Aside0.mk (Below.refl w.heap.size w)
 have H' := Aside0.mk H
 clear H
 go_enter Try.func37, Try.ntmps37
 go_wp2
 go_loopg [1, 5] k (fun kq v1 v5 w' => ∃ (x1_1 : Int) (x5_1 : Int), v1 = .int .i64 x1_1 ∧ v5 = .int .i64 x5_1 ∧ Aside0 (laws_heldShownS.l0 kq l0 x1_1 x5_1 = some r) ∧ Aside0 (kq ≤ k) ∧ Aside0 (Below w.heap.size w w'))
 case atStart => exact ⟨(a1), (0), (by first | rfl | (simp; done) | (simp [*]; done) | (simp; unfold wrap64; omega)), (by first | rfl | (simp; done) | (simp [*]; done) | (simp; unfold wrap64; omega)), H', ⟨Nat.le_refl _⟩, ⟨by repeat (first | (with_reducible first | exact HB.out | apply z7q | apply z3q | apply z4q) | exact HB.out)⟩⟩
 case round =>
  clear H'
  try clear p2
  obtain ⟨x1_1, x5_1, rfl, rfl, HA, HK1, HB⟩ := hrel
  cases gk with
  | zero => exact absurd HA.out (by simp [laws_heldShownS.l0])
  | succ k1 =>
   have H := HA.out
   clear HA
   simp only [laws_heldShownS.l0] at H
   by_cases c3 : x5_1 < (l0.length : Int)
   ·rw [if_pos c3] at H
    have c3b0 : decide (x5_1 < (l0.length : Int)) = true := decide_eq_true c3
    clear c3
    by_cases c4 : 0 ≤ x5_1
    ·rw [if_pos c4] at H
     have c4b0 : decide (0 ≤ x5_1) = true := decide_eq_true c4
     clear c4
     by_cases c5 : ((rd_T107 l0 x5_1).f0) = x1_1
     ·rw [if_pos c5] at H
      have c5b0 : (((rd_T107 l0 x5_1).f0) == x1_1) = true := beq_iff_eq.mpr c5
      have c5b1 : (((rd_T107 l0 x5_1).f0) != x1_1) = false := bne_eq_false_iff_eq.mpr c5
      clear c5
      by_cases c6 : ((rd_T107 l0 x5_1).f1) = (wrap64 (x1_1 + 1))
      ·rw [if_pos c6] at H
       have c6b0 : (((rd_T107 l0 x5_1).f1) == (wrap64 (x1_1 + 1))) = true := beq_iff_eq.mpr c6
       have c6b1 : (((rd_T107 l0 x5_1).f1) != (wrap64 (x1_1 + 1))) = false := bne_eq_false_iff_eq.mpr c6
       clear c6
       by_cases c7 : ((rd_T107 l0 x5_1).f2.f0) = (wrap64 ((wrap64 (x1_1 + 1)) + 1))
       ·rw [if_pos c7] at H
        have c7b0 : (((rd_T107 l0 x5_1).f2.f0) == (wrap64 ((wrap64 (x1_1 + 1)) + 1))) = true := beq_iff_eq.mpr c7
        have c7b1 : (((rd_T107 l0 x5_1).f2.f0) != (wrap64 ((wrap64 (x1_1 + 1)) + 1))) = false := bne_eq_false_iff_eq.mpr c7
        clear c7
        by_cases c8 : (((rd_T107 l0 x5_1).f2.f1.f0) != ((Int.tmod (wrap64 ((wrap64 ((wrap64 (x1_1 + 1)) + 1)) + 1)) 3) == 0)) = true
        ·rw [if_pos c8] at H
         have c8b0 : (((rd_T107 l0 x5_1).f2.f1.f0) != ((Int.tmod (wrap64 ((wrap64 ((wrap64 (x1_1 + 1)) + 1)) + 1)) 3) == 0)) = true := c8
         (try (have c8b1 : decide (((rd_T107 l0 x5_1).f2.f1.f0) = ((Int.tmod (wrap64 ((wrap64 ((wrap64 (x1_1 + 1)) + 1)) + 1)) 3) == 0)) = false := by simpa using c8))
         (try (have c8b2 : (((rd_T107 l0 x5_1).f2.f1.f0) == ((Int.tmod (wrap64 ((wrap64 ((wrap64 (x1_1 + 1)) + 1)) + 1)) 3) == 0)) = false := by simpa using c8))
         (try (have c8b3 : ¬ (((rd_T107 l0 x5_1).f2.f1.f0) = ((Int.tmod (wrap64 ((wrap64 ((wrap64 (x1_1 + 1)) + 1)) + 1)) 3) == 0)) := by simpa using c8))
         clear c8
         obtain rfl := Option.some.inj H
         have p229 : 0 ≤ (x5_1 : Int) := of_decide_eq_true (by first | (with_reducible assumption) | assumption)
         have q229 : x5_1 < (l0.length : Int) := of_decide_eq_true (by first | (with_reducible assumption) | assumption)
         obtain ⟨ad229, e229, hx229_0, hx229_1, hx229_2, hx229_3, hx229_4, hx229_5, hx229_6, hx229_7⟩ := at_T107 HR0.out x5_1 p229 q229
         cases e229
         replace hx229_0 := (hbc HB.out hx229_0).trans hx229_0
         replace hx229_1 := (hbc HB.out hx229_1).trans hx229_1
         replace hx229_2 := (hbc HB.out hx229_2).trans hx229_2
         replace hx229_3 := (hbc HB.out hx229_3).trans hx229_3
         replace hx229_4 := (hbc HB.out hx229_4).trans hx229_4
         replace hx229_5 := (hbc HB.out hx229_5).trans hx229_5
         replace hx229_6 := (hbc HB.out hx229_6).trans hx229_6
         replace hx229_7 := (hbc HB.out hx229_7).trans hx229_7
         replace p229 := eq_true p229
         replace q229 := eq_true q229
         have p230 : 0 ≤ (x5_1 : Int) := of_decide_eq_true (by first | (with_reducible assumption) | assumption)
         have q230 : x5_1 < (l0.length : Int) := of_decide_eq_true (by first | (with_reducible assumption) | assumption)
         obtain ⟨ad230, e230, hx230_0, hx230_1, hx230_2, hx230_3, hx230_4, hx230_5, hx230_6, hx230_7⟩ := at_T107 HR0.out x5_1 p230 q230
         obtain rfl : ad229 = ad230 := (by injection e230)
         replace hx230_0 := (hbc HB.out hx230_0).trans hx230_0
         replace hx230_1 := (hbc HB.out hx230_1).trans hx230_1
         replace hx230_2 := (hbc HB.out hx230_2).trans hx230_2
         replace hx230_3 := (hbc HB.out hx230_3).trans hx230_3
         replace hx230_4 := (hbc HB.out hx230_4).trans hx230_4
         replace hx230_5 := (hbc HB.out hx230_5).trans hx230_5
         replace hx230_6 := (hbc HB.out hx230_6).trans hx230_6
         replace hx230_7 := (hbc HB.out hx230_7).trans hx230_7
         replace p230 := eq_true p230
         replace q230 := eq_true q230
         have p231 : 0 ≤ (x5_1 : Int) := of_decide_eq_true (by first | (with_reducible assumption) | assumption)
         have q231 : x5_1 < (l0.length : Int) := of_decide_eq_true (by first | (with_reducible assumption) | assumption)
         obtain ⟨ad231, e231, hx231_0, hx231_1, hx231_2, hx231_3, hx231_4, hx231_5, hx231_6, hx231_7⟩ := at_T107 HR0.out x5_1 p231 q231
         obtain rfl : ad229 = ad231 := (by injection e231)
         replace hx231_0 := (hbc HB.out hx231_0).trans hx231_0
         replace hx231_1 := (hbc HB.out hx231_1).trans hx231_1
         replace hx231_2 := (hbc HB.out hx231_2).trans hx231_2
         replace hx231_3 := (hbc HB.out hx231_3).trans hx231_3
         replace hx231_4 := (hbc HB.out hx231_4).trans hx231_4
         replace hx231_5 := (hbc HB.out hx231_5).trans hx231_5
         replace hx231_6 := (hbc HB.out hx231_6).trans hx231_6
         replace hx231_7 := (hbc HB.out hx231_7).trans hx231_7
         replace p231 := eq_true p231
         replace q231 := eq_true q231
         have p232 : 0 ≤ (x5_1 : Int) := of_decide_eq_true (by first | (with_reducible assumption) | assumption)
         have q232 : x5_1 < (l0.length : Int) := of_decide_eq_true (by first | (with_reducible assumption) | assumption)
         obtain ⟨ad232, e232, hx232_0, hx232_1, hx232_2, hx232_3, hx232_4, hx232_5, hx232_6, hx232_7⟩ := at_T107 HR0.out x5_1 p232 q232
         obtain rfl : ad229 = ad232 := (by injection e232)
         replace hx232_0 := (hbc HB.out hx232_0).trans hx232_0
         replace hx232_1 := (hbc HB.out hx232_1).trans hx232_1
         replace hx232_2 := (hbc HB.out hx232_2).trans hx232_2
         replace hx232_3 := (hbc HB.out hx232_3).trans hx232_3
         replace hx232_4 := (hbc HB.out hx232_4).trans hx232_4
         replace hx232_5 := (hbc HB.out hx232_5).trans hx232_5
         replace hx232_6 := (hbc HB.out hx232_6).trans hx232_6
         replace hx232_7 := (hbc HB.out hx232_7).trans hx232_7
         replace p232 := eq_true p232
         replace q232 := eq_true q232
         go_wp2
         go_ret
         exact ⟨by first | rfl | (simp [errW_none, errW_some] <;> rfl) | (simp [*, errW_none, errW_some] <;> rfl), by repeat (first | (with_reducible first | exact HB.out | apply z7q | apply z3q | apply z4q) | exact HB.out)⟩
        ·rw [if_neg c8] at H
         have c8b0 : (((rd_T107 l0 x5_1).f2.f1.f0) != ((Int.tmod (wrap64 ((wrap64 ((wrap64 (x1_1 + 1)) + 1)) + 1)) 3) == 0)) = false := by simpa using c8
         (try (have c8b1 : decide (((rd_T107 l0 x5_1).f2.f1.f0) = ((Int.tmod (wrap64 ((wrap64 ((wrap64 (x1_1 + 1)) + 1)) + 1)) 3) == 0)) = true := by simpa using c8))
         (try (have c8b2 : (((rd_T107 l0 x5_1).f2.f1.f0) == ((Int.tmod (wrap64 ((wrap64 ((wrap64 (x1_1 + 1)) + 1)) + 1)) 3) == 0)) = true := by simpa using c8))
         clear c8
         by_cases c9 : ((rd_T107 l0 x5_1).f2.f1.f1) = (wrap64 ((wrap64 ((wrap64 ((wrap64 (x1_1 + 1)) + 1)) + 1)) + 1))
         ·rw [if_pos c9] at H
          have c9b0 : (((rd_T107 l0 x5_1).f2.f1.f1) == (wrap64 ((wrap64 ((wrap64 ((wrap64 (x1_1 + 1)) + 1)) + 1)) + 1))) = true := beq_iff_eq.mpr c9
          have c9b1 : (((rd_T107 l0 x5_1).f2.f1.f1) != (wrap64 ((wrap64 ((wrap64 ((wrap64 (x1_1 + 1)) + 1)) + 1)) + 1))) = false := bne_eq_false_iff_eq.mpr c9
          clear c9
          by_cases c10 : ((rd_T107 l0 x5_1).f2.f1.f2) = (wrap64 ((wrap64 ((wrap64 ((wrap64 ((wrap64 (x1_1 + 1)) + 1)) + 1)) + 1)) + 1))
          ·rw [if_pos c10] at H
           have c10b0 : (((rd_T107 l0 x5_1).f2.f1.f2) == (wrap64 ((wrap64 ((wrap64 ((wrap64 ((wrap64 (x1_1 + 1)) + 1)) + 1)) + 1)) + 1))) = true := beq_iff_eq.mpr c10
           have c10b1 : (((rd_T107 l0 x5_1).f2.f1.f2) != (wrap64 ((wrap64 ((wrap64 ((wrap64 ((wrap64 (x1_1 + 1)) + 1)) + 1)) + 1)) + 1))) = false := bne_eq_false_iff_eq.mpr c10
           clear c10
           replace H := Option.bind_eq_some_iff.mp H
           obtain ⟨t236, A110, H⟩ := H
           replace H : (if ((rd_T107 l0 x5_1).f2.f2).toList = t236.toList then (if (((rd_T107 l0 x5_1).f3) != ((Int.tmod (wrap64 ((wrap64 ((wrap64 ((wrap64 ((wrap64 ((wrap64 ((wrap64 (x1_1 + 1)) + 1)) + 1)) + 1)) + 1)) + 1)) + 1)) 3) == 0)) = true then (some (-1)) else (laws_heldShownS.l0 k1 l0 (wrap64 ((wrap64 ((wrap64 ((wrap64 ((wrap64 ((wrap64 ((wrap64 ((wrap64 (x1_1 + 1)) + 1)) + 1)) + 1)) + 1)) + 1)) + 1)) + 1)) (wrap64 (x5_1 + 1)))) else (some (-1))) = some r := H
           have A11 := Aside0.mk A110
           clear A110
           by_cases c12 : ((rd_T107 l0 x5_1).f2.f2).toList = t236.toList
           ·rw [if_pos c12] at H
            have c12b0 : (((rd_T107 l0 x5_1).f2.f2).toList == t236.toList) = true := beq_iff_eq.mpr c12
            have c12b1 : (((rd_T107 l0 x5_1).f2.f2).toList != t236.toList) = false := bne_eq_false_iff_eq.mpr c12
            clear c12
            by_cases c13 : (((rd_T107 l0 x5_1).f3) != ((Int.tmod (wrap64 ((wrap64 ((wrap64 ((wrap64 ((wrap64 ((wrap64 ((wrap64 (x1_1 + 1)) + 1)) + 1)) + 1)) + 1)) + 1)) + 1)) 3) == 0)) = true
            ·rw [if_pos c13] at H
             have c13b0 : (((rd_T107 l0 x5_1).f3) != ((Int.tmod (wrap64 ((wrap64 ((wrap64 ((wrap64 ((wrap64 ((wrap64 ((wrap64 (x1_1 + 1)) + 1)) + 1)) + 1)) + 1)) + 1)) + 1)) 3) == 0)) = true := c13
             (try (have c13b1 : decide (((rd_T107 l0 x5_1).f3) = ((Int.tmod (wrap64 ((wrap64 ((wrap64 ((wrap64 ((wrap64 ((wrap64 ((wrap64 (x1_1 + 1)) + 1)) + 1)) + 1)) + 1)) + 1)) + 1)) 3) == 0)) = false := by simpa using c13))
             (try (have c13b2 : (((rd_T107 l0 x5_1).f3) == ((Int.tmod (wrap64 ((wrap64 ((wrap64 ((wrap64 ((wrap64 ((wrap64 ((wrap64 (x1_1 + 1)) + 1)) + 1)) + 1)) + 1)) + 1)) + 1)) 3) == 0)) = false := by simpa using c13))
             (try (have c13b3 : ¬ (((rd_T107 l0 x5_1).f3) = ((Int.tmod (wrap64 ((wrap64 ((wrap64 ((wrap64 ((wrap64 ((wrap64 ((wrap64 (x1_1 + 1)) + 1)) + 1)) + 1)) + 1)) + 1)) + 1)) 3) == 0)) := by simpa using c13))
             clear c13
             obtain rfl := Option.some.inj H
             have p229 : 0 ≤ (x5_1 : Int) := of_decide_eq_true (by first | (with_reducible assumption) | assumption)
             have q229 : x5_1 < (l0.length : Int) := of_decide_eq_true (by first | (with_reducible assumption) | assumption)
             obtain ⟨ad229, e229, hx229_0, hx229_1, hx229_2, hx229_3, hx229_4, hx229_5, hx229_6, hx229_7⟩ := at_T107 HR0.out x5_1 p229 q229
             cases e229
             replace hx229_0 := (hbc HB.out hx229_0).trans hx229_0
             replace hx229_1 := (hbc HB.out hx229_1).trans hx229_1
             replace hx229_2 := (hbc HB.out hx229_2).trans hx229_2
             replace hx229_3 := (hbc HB.out hx229_3).trans hx229_3
             replace hx229_4 := (hbc HB.out hx229_4).trans hx229_4
             replace hx229_5 := (hbc HB.out hx229_5).trans hx229_5
             replace hx229_6 := (hbc HB.out hx229_6).trans hx229_6
             replace hx229_7 := (hbc HB.out hx229_7).trans hx229_7
             replace p229 := eq_true p229
             replace q229 := eq_true q229
             have p230 : 0 ≤ (x5_1 : Int) := of_decide_eq_true (by first | (with_reducible assumption) | assumption)
             have q230 : x5_1 < (l0.length : Int) := of_decide_eq_true (by first | (with_reducible assumption) | assumption)
             obtain ⟨ad230, e230, hx230_0, hx230_1, hx230_2, hx230_3, hx230_4, hx230_5, hx230_6, hx230_7⟩ := at_T107 HR0.out x5_1 p230 q230
             obtain rfl : ad229 = ad230 := (by injection e230)
             replace hx230_0 := (hbc HB.out hx230_0).trans hx230_0
             replace hx230_1 := (hbc HB.out hx230_1).trans hx230_1
             replace hx230_2 := (hbc HB.out hx230_2).trans hx230_2
             replace hx230_3 := (hbc HB.out hx230_3).trans hx230_3
             replace hx230_4 := (hbc HB.out hx230_4).trans hx230_4
             replace hx230_5 := (hbc HB.out hx230_5).trans hx230_5
             replace hx230_6 := (hbc HB.out hx230_6).trans hx230_6
             replace hx230_7 := (hbc HB.out hx230_7).trans hx230_7
             replace p230 := eq_true p230
             replace q230 := eq_true q230
             have p231 : 0 ≤ (x5_1 : Int) := of_decide_eq_true (by first | (with_reducible assumption) | assumption)
             have q231 : x5_1 < (l0.length : Int) := of_decide_eq_true (by first | (with_reducible assumption) | assumption)
             obtain ⟨ad231, e231, hx231_0, hx231_1, hx231_2, hx231_3, hx231_4, hx231_5, hx231_6, hx231_7⟩ := at_T107 HR0.out x5_1 p231 q231
             obtain rfl : ad229 = ad231 := (by injection e231)
             replace hx231_0 := (hbc HB.out hx231_0).trans hx231_0
             replace hx231_1 := (hbc HB.out hx231_1).trans hx231_1
             replace hx231_2 := (hbc HB.out hx231_2).trans hx231_2
             replace hx231_3 := (hbc HB.out hx231_3).trans hx231_3
             replace hx231_4 := (hbc HB.out hx231_4).trans hx231_4
             replace hx231_5 := (hbc HB.out hx231_5).trans hx231_5
             replace hx231_6 := (hbc HB.out hx231_6).trans hx231_6
             replace hx231_7 := (hbc HB.out hx231_7).trans hx231_7
             replace p231 := eq_true p231
             replace q231 := eq_true q231
             have p232 : 0 ≤ (x5_1 : Int) := of_decide_eq_true (by first | (with_reducible assumption) | assumption)
             have q232 : x5_1 < (l0.length : Int) := of_decide_eq_true (by first | (with_reducible assumption) | assumption)
             obtain ⟨ad232, e232, hx232_0, hx232_1, hx232_2, hx232_3, hx232_4, hx232_5, hx232_6, hx232_7⟩ := at_T107 HR0.out x5_1 p232 q232
             obtain rfl : ad229 = ad232 := (by injection e232)
             replace hx232_0 := (hbc HB.out hx232_0).trans hx232_0
             replace hx232_1 := (hbc HB.out hx232_1).trans hx232_1
             replace hx232_2 := (hbc HB.out hx232_2).trans hx232_2
             replace hx232_3 := (hbc HB.out hx232_3).trans hx232_3
             replace hx232_4 := (hbc HB.out hx232_4).trans hx232_4
             replace hx232_5 := (hbc HB.out hx232_5).trans hx232_5
             replace hx232_6 := (hbc HB.out hx232_6).trans hx232_6
             replace hx232_7 := (hbc HB.out hx232_7).trans hx232_7
             replace p232 := eq_true p232
             replace q232 := eq_true q232
             have p233 : 0 ≤ (x5_1 : Int) := of_decide_eq_true (by first | (with_reducible assumption) | assumption)
             have q233 : x5_1 < (l0.length : Int) := of_decide_eq_true (by first | (with_reducible assumption) | assumption)
             obtain ⟨ad233, e233, hx233_0, hx233_1, hx233_2, hx233_3, hx233_4, hx233_5, hx233_6, hx233_7⟩ := at_T107 HR0.out x5_1 p233 q233
             obtain rfl : ad229 = ad233 := (by injection e233)
             replace hx233_0 := (hbc HB.out hx233_0).trans hx233_0
             replace hx233_1 := (hbc HB.out hx233_1).trans hx233_1
             replace hx233_2 := (hbc HB.out hx233_2).trans hx233_2
             replace hx233_3 := (hbc HB.out hx233_3).trans hx233_3
             replace hx233_4 := (hbc HB.out hx233_4).trans hx233_4
             replace hx233_5 := (hbc HB.out hx233_5).trans hx233_5
             replace hx233_6 := (hbc HB.out hx233_6).trans hx233_6
             replace hx233_7 := (hbc HB.out hx233_7).trans hx233_7
             replace p233 := eq_true p233
             replace q233 := eq_true q233
             have p234 : 0 ≤ (x5_1 : Int) := of_decide_eq_true (by first | (with_reducible assumption) | assumption)
             have q234 : x5_1 < (l0.length : Int) := of_decide_eq_true (by first | (with_reducible assumption) | assumption)
             obtain ⟨ad234, e234, hx234_0, hx234_1, hx234_2, hx234_3, hx234_4, hx234_5, hx234_6, hx234_7⟩ := at_T107 HR0.out x5_1 p234 q234
             obtain rfl : ad229 = ad234 := (by injection e234)
             replace hx234_0 := (hbc HB.out hx234_0).trans hx234_0
             replace hx234_1 := (hbc HB.out hx234_1).trans hx234_1
             replace hx234_2 := (hbc HB.out hx234_2).trans hx234_2
             replace hx234_3 := (hbc HB.out hx234_3).trans hx234_3
             replace hx234_4 := (hbc HB.out hx234_4).trans hx234_4
             replace hx234_5 := (hbc HB.out hx234_5).trans hx234_5
             replace hx234_6 := (hbc HB.out hx234_6).trans hx234_6
             replace hx234_7 := (hbc HB.out hx234_7).trans hx234_7
             replace p234 := eq_true p234
             replace q234 := eq_true q234
             try go_wp2
             have n0_ := Aside0.mk (z4q HB.out)
             clear HB
             have HB := n0_
             clear n0_
             have p235 : 0 ≤ (x5_1 : Int) := of_decide_eq_true (by first | (with_reducible assumption) | assumption)
             have q235 : x5_1 < (l0.length : Int) := of_decide_eq_true (by first | (with_reducible assumption) | assumption)
             obtain ⟨ad235, e235, hx235_0, hx235_1, hx235_2, hx235_3, hx235_4, hx235_5, hx235_6, hx235_7⟩ := at_T107 HR0.out x5_1 p235 q235
             have hw235_7 := hx235_7
             have hw235_6 := hx235_6
             have hw235_5 := hx235_5
             have hw235_4 := hx235_4
             have hw235_3 := hx235_3
             have hw235_2 := hx235_2
             have hw235_1 := hx235_1
             have hw235_0 := hx235_0
             obtain rfl : ad229 = ad235 := (by injection e235)
             replace hx235_0 := (hbc HB.out hx235_0).trans hx235_0
             replace hx235_1 := (hbc HB.out hx235_1).trans hx235_1
             replace hx235_2 := (hbc HB.out hx235_2).trans hx235_2
             replace hx235_3 := (hbc HB.out hx235_3).trans hx235_3
             replace hx235_4 := (hbc HB.out hx235_4).trans hx235_4
             replace hx235_5 := (hbc HB.out hx235_5).trans hx235_5
             replace hx235_6 := (hbc HB.out hx235_6).trans hx235_6
             replace hx235_7 := (hbc HB.out hx235_7).trans hx235_7
             replace p235 := eq_true p235
             replace q235 := eq_true q235
             refine start_ (n := 9) (S := fun w' => w'.cell? (ad229.add ((x5_1).toNat * 8)) = some (.int .i64 ((rd_T107 l0 x5_1).f0)) ∧ w'.cell? ⟨(ad229.add ((x5_1).toNat * 8)).block, (ad229.add ((x5_1).toNat * 8)).off + 1, none⟩ = some (.int .i64 ((rd_T107 l0 x5_1).f1)) ∧ w'.cell? ⟨(ad229.add ((x5_1).toNat * 8)).block, (ad229.add ((x5_1).toNat * 8)).off + 2, none⟩ = some (.int .i64 ((rd_T107 l0 x5_1).f2.f0)) ∧ w'.cell? ⟨(ad229.add ((x5_1).toNat * 8)).block, (ad229.add ((x5_1).toNat * 8)).off + 3, none⟩ = some (.bool ((rd_T107 l0 x5_1).f2.f1.f0)) ∧ w'.cell? ⟨(ad229.add ((x5_1).toNat * 8)).block, (ad229.add ((x5_1).toNat * 8)).off + 4, none⟩ = some (.int .i64 ((rd_T107 l0 x5_1).f2.f1.f1)) ∧ w'.cell? ⟨(ad229.add ((x5_1).toNat * 8)).block, (ad229.add ((x5_1).toNat * 8)).off + 5, none⟩ = some (.int .i64 ((rd_T107 l0 x5_1).f2.f1.f2)) ∧ w'.cell? ⟨(ad229.add ((x5_1).toNat * 8)).block, (ad229.add ((x5_1).toNat * 8)).off + 6, none⟩ = some (.string ((rd_T107 l0 x5_1).f2.f2)) ∧ w'.cell? ⟨(ad229.add ((x5_1).toNat * 8)).block, (ad229.add ((x5_1).toNat * 8)).off + 7, none⟩ = some (.bool ((rd_T107 l0 x5_1).f3))) (ds := []) bt8_0 (by kernel_rfl) rfl rfl ⟨(hbt HB.out hw235_0), (hbt HB.out hw235_1), (hbt HB.out hw235_2), (hbt HB.out hw235_3), (hbt HB.out hw235_4), (hbt HB.out hw235_5), (hbt HB.out hw235_6), (hbt HB.out hw235_7)⟩ (fun hHeld => ?_); refine with_tabW laws_heldShownS.tab22 laws_heldShownS.bits22 (fun HT_ HW_ => ?_)
             generalize wr.drew = w14 at HB hx235_0 hx235_1 hx235_2 hx235_3 hx235_4 hx235_5 hx235_6 hx235_7 hHeld ⊢
             refine pure_ (i := 0) (N := some 75) (v := ?_) (a' := ?_) bt8_1 rfl rfl (z8q HT_.out (by kernel_rfl)) (fun _ _ _ h => h) (Or.inl ⟨by rfl, ?_⟩) ?_ ?_
             rotate_left
             ·intro w'
              go_simp
              with_reducible rfl
             rotate_left
             ·simp only [Act.put, setIfInBounds_toArray, set_cons_zero, set_cons_succ, i64_w, i32_w]
              rfl
             refine pure_ (i := 1) (N := some 76) (v := ?_) (a' := ?_) bt8_2 rfl rfl (z8q HT_.out (by kernel_rfl)) (fun _ _ _ h => h) (Or.inl ⟨by rfl, ?_⟩) ?_ ?_
             rotate_left
             ·intro w'
              go_simp
              with_reducible rfl
             rotate_left
             ·simp only [Act.put, setIfInBounds_toArray, set_cons_zero, set_cons_succ, i64_w, i32_w]
              rfl
             refine pure_ (i := 2) (N := some 77) (v := ?_) (a' := ?_) bt8_3 rfl rfl (z8q HT_.out (by kernel_rfl)) (fun _ _ _ h => h) (Or.inl ⟨by rfl, ?_⟩) ?_ ?_
             rotate_left
             ·intro w'
              go_simp
              with_reducible rfl
             rotate_left
             ·simp only [Act.put, setIfInBounds_toArray, set_cons_zero, set_cons_succ, i64_w, i32_w]
              rfl
             refine pure_ (i := 3) (N := some 78) (v := ?_) (a' := ?_) bt8_4 rfl rfl (z8q HT_.out (by kernel_rfl)) (fun _ _ _ h => h) (Or.inl ⟨by rfl, ?_⟩) ?_ ?_
             rotate_left
             ·intro w'
              go_simp
              with_reducible rfl
             rotate_left
             ·simp only [Act.put, setIfInBounds_toArray, set_cons_zero, set_cons_succ, i64_w, i32_w]
              rfl
             refine pure_ (i := 4) (N := some 79) (v := ?_) (a' := ?_) bt8_5 rfl rfl (z8q HT_.out (by kernel_rfl)) (fun _ _ _ h => h) (Or.inl ⟨by rfl, ?_⟩) ?_ ?_
             rotate_left
             ·intro w'
              go_simp
              with_reducible rfl
             rotate_left
             ·simp only [Act.put, setIfInBounds_toArray, set_cons_zero, set_cons_succ, i64_w, i32_w]
              rfl
             refine pure_ (i := 6) (N := some 81) (v := ?_) (a' := ?_) bt8_6 rfl rfl (z8q HT_.out (by kernel_rfl)) (fun _ _ _ h => h) (Or.inl ⟨by rfl, ?_⟩) ?_ ?_
             rotate_left
             ·intro w'
              go_simp
              with_reducible rfl
             rotate_left
             ·simp only [Act.put, setIfInBounds_toArray, set_cons_zero, set_cons_succ, i64_w, i32_w]
              rfl
             refine take_ (i := 5) (N := some 80) (v := ?_) (a' := ?_) bt8_7 rfl rfl (z19q HT_.out HW_.out (by kernel_rfl)) (fun _ _ _ h => h) (Or.inl ⟨by rfl, ?_⟩) hHeld ?_ ?_
             rotate_left
             ·rintro w' ⟨s0, s1, s2, s3, s4, s5, s6, s7⟩
              go_simp
              with_reducible rfl
             rotate_left
             ·simp only [Act.put, setIfInBounds_toArray, set_cons_zero, set_cons_succ, i64_w, i32_w]
              rfl
             refine one_ (i := 7) (N := some 82) bt8_8 rfl rfl (one_of HT_.out (by kernel_rfl)) (by decide) (fun K hK => ?_)
             refine goes_ Try.func74 (by kernel_rfl) rfl #[.int .i64 (wrap64 ((wrap64 ((wrap64 ((wrap64 ((wrap64 ((wrap64 (x1_1 + 1)) + 1)) + 1)) + 1)) + 1)) + 1))] (by rfl) rfl rfl (by (try simp only [map_toArray, map_cons, map_nil]); first | done | rfl | (simp only [length_drop, length_take]; rfl)) ?_
             with_reducible refine (laws_markText.calls k1 (wrap64 ((wrap64 ((wrap64 ((wrap64 ((wrap64 ((wrap64 (x1_1 + 1)) + 1)) + 1)) + 1)) + 1)) + 1)) t236 _ A11.out).mono ?_
             rintro e w15 ⟨rfl, hb⟩
             refine ⟨_, rfl, ?_⟩
             have n0_ := Aside0.mk (z6q (ibh HB.out) hb)
             clear HB
             have HB := n0_
             clear n0_
             (try clear hb)
             (try clear hb2)
             (try clear hk)
             (try clear hi)
             refine hK.out _ _ ⟨(hbt HB.out hw235_0), (hbt HB.out hw235_1), (hbt HB.out hw235_2), (hbt HB.out hw235_3), (hbt HB.out hw235_4), (hbt HB.out hw235_5), (hbt HB.out hw235_6), (hbt HB.out hw235_7)⟩ (fun hHeld => ?_)
             clear hK K
             refine norm_ (a' := ?_) ?_ ?_
             rotate_left
             ·show Act.put _ (some 82) _ = _
              simp only [Act.put, setIfInBounds_toArray, set_cons_zero, set_cons_succ, i64_w, i32_w]
              rfl
             refine pure_ (i := 8) (N := some 83) (v := ?_) (a' := ?_) bt8_9 rfl rfl (z8q HT_.out (by kernel_rfl)) (fun _ _ _ h => h) (Or.inl ⟨by rfl, ?_⟩) ?_ ?_
             rotate_left
             ·intro w'
              go_simp
              with_reducible rfl
             rotate_left
             ·simp only [Act.put, setIfInBounds_toArray, set_cons_zero, set_cons_succ, i64_w, i32_w]
              rfl
             refine done_ (done_of HT_.out (by kernel_rfl)) ?_
             have p237 : 0 ≤ (x5_1 : Int) := of_decide_eq_true (by first | (with_reducible assumption) | assumption)
             have q237 : x5_1 < (l0.length : Int) := of_decide_eq_true (by first | (with_reducible assumption) | assumption)
             obtain ⟨ad237, e237, hx237_0, hx237_1, hx237_2, hx237_3, hx237_4, hx237_5, hx237_6, hx237_7⟩ := at_T107 HR0.out x5_1 p237 q237
             obtain rfl : ad229 = ad237 := (by injection e237)
             replace hx237_0 := (hbc HB.out hx237_0).trans hx237_0
             replace hx237_1 := (hbc HB.out hx237_1).trans hx237_1
             replace hx237_2 := (hbc HB.out hx237_2).trans hx237_2
             replace hx237_3 := (hbc HB.out hx237_3).trans hx237_3
             replace hx237_4 := (hbc HB.out hx237_4).trans hx237_4
             replace hx237_5 := (hbc HB.out hx237_5).trans hx237_5
             replace hx237_6 := (hbc HB.out hx237_6).trans hx237_6
             replace hx237_7 := (hbc HB.out hx237_7).trans hx237_7
             replace p237 := eq_true p237
             replace q237 := eq_true q237
             try go_wp2
             go_ret
             exact ⟨by first | rfl | (simp [errW_none, errW_some] <;> rfl) | (simp [*, errW_none, errW_some] <;> rfl), by repeat (first | (with_reducible first | exact HB.out | apply z7q | apply z3q | apply z4q) | exact HB.out)⟩
            ·rw [if_neg c13] at H
             have c13b0 : (((rd_T107 l0 x5_1).f3) != ((Int.tmod (wrap64 ((wrap64 ((wrap64 ((wrap64 ((wrap64 ((wrap64 ((wrap64 (x1_1 + 1)) + 1)) + 1)) + 1)) + 1)) + 1)) + 1)) 3) == 0)) = false := by simpa using c13
             (try (have c13b1 : decide (((rd_T107 l0 x5_1).f3) = ((Int.tmod (wrap64 ((wrap64 ((wrap64 ((wrap64 ((wrap64 ((wrap64 ((wrap64 (x1_1 + 1)) + 1)) + 1)) + 1)) + 1)) + 1)) + 1)) 3) == 0)) = true := by simpa using c13))
             (try (have c13b2 : (((rd_T107 l0 x5_1).f3) == ((Int.tmod (wrap64 ((wrap64 ((wrap64 ((wrap64 ((wrap64 ((wrap64 ((wrap64 (x1_1 + 1)) + 1)) + 1)) + 1)) + 1)) + 1)) + 1)) 3) == 0)) = true := by simpa using c13))
             clear c13
             have H' := Aside0.mk H
             clear H
             have p229 : 0 ≤ (x5_1 : Int) := of_decide_eq_true (by first | (with_reducible assumption) | assumption)
             have q229 : x5_1 < (l0.length : Int) := of_decide_eq_true (by first | (with_reducible assumption) | assumption)
             obtain ⟨ad229, e229, hx229_0, hx229_1, hx229_2, hx229_3, hx229_4, hx229_5, hx229_6, hx229_7⟩ := at_T107 HR0.out x5_1 p229 q229
             cases e229
             replace hx229_0 := (hbc HB.out hx229_0).trans hx229_0
             replace hx229_1 := (hbc HB.out hx229_1).trans hx229_1
             replace hx229_2 := (hbc HB.out hx229_2).trans hx229_2
             replace hx229_3 := (hbc HB.out hx229_3).trans hx229_3
             replace hx229_4 := (hbc HB.out hx229_4).trans hx229_4
             replace hx229_5 := (hbc HB.out hx229_5).trans hx229_5
             replace hx229_6 := (hbc HB.out hx229_6).trans hx229_6
             replace hx229_7 := (hbc HB.out hx229_7).trans hx229_7
             replace p229 := eq_true p229
             replace q229 := eq_true q229
             have p230 : 0 ≤ (x5_1 : Int) := of_decide_eq_true (by first | (with_reducible assumption) | assumption)
             have q230 : x5_1 < (l0.length : Int) := of_decide_eq_true (by first | (with_reducible assumption) | assumption)
             obtain ⟨ad230, e230, hx230_0, hx230_1, hx230_2, hx230_3, hx230_4, hx230_5, hx230_6, hx230_7⟩ := at_T107 HR0.out x5_1 p230 q230
             obtain rfl : ad229 = ad230 := (by injection e230)
             replace hx230_0 := (hbc HB.out hx230_0).trans hx230_0
             replace hx230_1 := (hbc HB.out hx230_1).trans hx230_1
             replace hx230_2 := (hbc HB.out hx230_2).trans hx230_2
             replace hx230_3 := (hbc HB.out hx230_3).trans hx230_3
             replace hx230_4 := (hbc HB.out hx230_4).trans hx230_4
             replace hx230_5 := (hbc HB.out hx230_5).trans hx230_5
             replace hx230_6 := (hbc HB.out hx230_6).trans hx230_6
             replace hx230_7 := (hbc HB.out hx230_7).trans hx230_7
             replace p230 := eq_true p230
             replace q230 := eq_true q230
             have p231 : 0 ≤ (x5_1 : Int) := of_decide_eq_true (by first | (with_reducible assumption) | assumption)
             have q231 : x5_1 < (l0.length : Int) := of_decide_eq_true (by first | (with_reducible assumption) | assumption)
             obtain ⟨ad231, e231, hx231_0, hx231_1, hx231_2, hx231_3, hx231_4, hx231_5, hx231_6, hx231_7⟩ := at_T107 HR0.out x5_1 p231 q231
             obtain rfl : ad229 = ad231 := (by injection e231)
             replace hx231_0 := (hbc HB.out hx231_0).trans hx231_0
             replace hx231_1 := (hbc HB.out hx231_1).trans hx231_1
             replace hx231_2 := (hbc HB.out hx231_2).trans hx231_2
             replace hx231_3 := (hbc HB.out hx231_3).trans hx231_3
             replace hx231_4 := (hbc HB.out hx231_4).trans hx231_4
             replace hx231_5 := (hbc HB.out hx231_5).trans hx231_5
             replace hx231_6 := (hbc HB.out hx231_6).trans hx231_6
             replace hx231_7 := (hbc HB.out hx231_7).trans hx231_7
             replace p231 := eq_true p231
             replace q231 := eq_true q231
             have p232 : 0 ≤ (x5_1 : Int) := of_decide_eq_true (by first | (with_reducible assumption) | assumption)
             have q232 : x5_1 < (l0.length : Int) := of_decide_eq_true (by first | (with_reducible assumption) | assumption)
             obtain ⟨ad232, e232, hx232_0, hx232_1, hx232_2, hx232_3, hx232_4, hx232_5, hx232_6, hx232_7⟩ := at_T107 HR0.out x5_1 p232 q232
             obtain rfl : ad229 = ad232 := (by injection e232)
             replace hx232_0 := (hbc HB.out hx232_0).trans hx232_0
             replace hx232_1 := (hbc HB.out hx232_1).trans hx232_1
             replace hx232_2 := (hbc HB.out hx232_2).trans hx232_2
             replace hx232_3 := (hbc HB.out hx232_3).trans hx232_3
             replace hx232_4 := (hbc HB.out hx232_4).trans hx232_4
             replace hx232_5 := (hbc HB.out hx232_5).trans hx232_5
             replace hx232_6 := (hbc HB.out hx232_6).trans hx232_6
             replace hx232_7 := (hbc HB.out hx232_7).trans hx232_7
             replace p232 := eq_true p232
             replace q232 := eq_true q232
             have p233 : 0 ≤ (x5_1 : Int) := of_decide_eq_true (by first | (with_reducible assumption) | assumption)
             have q233 : x5_1 < (l0.length : Int) := of_decide_eq_true (by first | (with_reducible assumption) | assumption)
             obtain ⟨ad233, e233, hx233_0, hx233_1, hx233_2, hx233_3, hx233_4, hx233_5, hx233_6, hx233_7⟩ := at_T107 HR0.out x5_1 p233 q233
             obtain rfl : ad229 = ad233 := (by injection e233)
             replace hx233_0 := (hbc HB.out hx233_0).trans hx233_0
             replace hx233_1 := (hbc HB.out hx233_1).trans hx233_1
             replace hx233_2 := (hbc HB.out hx233_2).trans hx233_2
             replace hx233_3 := (hbc HB.out hx233_3).trans hx233_3
             replace hx233_4 := (hbc HB.out hx233_4).trans hx233_4
             replace hx233_5 := (hbc HB.out hx233_5).trans hx233_5
             replace hx233_6 := (hbc HB.out hx233_6).trans hx233_6
             replace hx233_7 := (hbc HB.out hx233_7).trans hx233_7
             replace p233 := eq_true p233
             replace q233 := eq_true q233
             have p234 : 0 ≤ (x5_1 : Int) := of_decide_eq_true (by first | (with_reducible assumption) | assumption)
             have q234 : x5_1 < (l0.length : Int) := of_decide_eq_true (by first | (with_reducible assumption) | assumption)
             obtain ⟨ad234, e234, hx234_0, hx234_1, hx234_2, hx234_3, hx234_4, hx234_5, hx234_6, hx234_7⟩ := at_T107 HR0.out x5_1 p234 q234
             obtain rfl : ad229 = ad234 := (by injection e234)
             replace hx234_0 := (hbc HB.out hx234_0).trans hx234_0
             replace hx234_1 := (hbc HB.out hx234_1).trans hx234_1
             replace hx234_2 := (hbc HB.out hx234_2).trans hx234_2
             replace hx234_3 := (hbc HB.out hx234_3).trans hx234_3
             replace hx234_4 := (hbc HB.out hx234_4).trans hx234_4
             replace hx234_5 := (hbc HB.out hx234_5).trans hx234_5
             replace hx234_6 := (hbc HB.out hx234_6).trans hx234_6
             replace hx234_7 := (hbc HB.out hx234_7).trans hx234_7
             replace p234 := eq_true p234
             replace q234 := eq_true q234
             try go_wp2
             have n0_ := Aside0.mk (z4q HB.out)
             clear HB
             have HB := n0_
             clear n0_
             have p235 : 0 ≤ (x5_1 : Int) := of_decide_eq_true (by first | (with_reducible assumption) | assumption)
             have q235 : x5_1 < (l0.length : Int) := of_decide_eq_true (by first | (with_reducible assumption) | assumption)
             obtain ⟨ad235, e235, hx235_0, hx235_1, hx235_2, hx235_3, hx235_4, hx235_5, hx235_6, hx235_7⟩ := at_T107 HR0.out x5_1 p235 q235
             have hw235_7 := hx235_7
             have hw235_6 := hx235_6
             have hw235_5 := hx235_5
             have hw235_4 := hx235_4
             have hw235_3 := hx235_3
             have hw235_2 := hx235_2
             have hw235_1 := hx235_1
             have hw235_0 := hx235_0
             obtain rfl : ad229 = ad235 := (by injection e235)
             replace hx235_0 := (hbc HB.out hx235_0).trans hx235_0
             replace hx235_1 := (hbc HB.out hx235_1).trans hx235_1
             replace hx235_2 := (hbc HB.out hx235_2).trans hx235_2
             replace hx235_3 := (hbc HB.out hx235_3).trans hx235_3
             replace hx235_4 := (hbc HB.out hx235_4).trans hx235_4
             replace hx235_5 := (hbc HB.out hx235_5).trans hx235_5
             replace hx235_6 := (hbc HB.out hx235_6).trans hx235_6
             replace hx235_7 := (hbc HB.out hx235_7).trans hx235_7
             replace p235 := eq_true p235
             replace q235 := eq_true q235
             refine start_ (n := 9) (S := fun w' => w'.cell? (ad229.add ((x5_1).toNat * 8)) = some (.int .i64 ((rd_T107 l0 x5_1).f0)) ∧ w'.cell? ⟨(ad229.add ((x5_1).toNat * 8)).block, (ad229.add ((x5_1).toNat * 8)).off + 1, none⟩ = some (.int .i64 ((rd_T107 l0 x5_1).f1)) ∧ w'.cell? ⟨(ad229.add ((x5_1).toNat * 8)).block, (ad229.add ((x5_1).toNat * 8)).off + 2, none⟩ = some (.int .i64 ((rd_T107 l0 x5_1).f2.f0)) ∧ w'.cell? ⟨(ad229.add ((x5_1).toNat * 8)).block, (ad229.add ((x5_1).toNat * 8)).off + 3, none⟩ = some (.bool ((rd_T107 l0 x5_1).f2.f1.f0)) ∧ w'.cell? ⟨(ad229.add ((x5_1).toNat * 8)).block, (ad229.add ((x5_1).toNat * 8)).off + 4, none⟩ = some (.int .i64 ((rd_T107 l0 x5_1).f2.f1.f1)) ∧ w'.cell? ⟨(ad229.add ((x5_1).toNat * 8)).block, (ad229.add ((x5_1).toNat * 8)).off + 5, none⟩ = some (.int .i64 ((rd_T107 l0 x5_1).f2.f1.f2)) ∧ w'.cell? ⟨(ad229.add ((x5_1).toNat * 8)).block, (ad229.add ((x5_1).toNat * 8)).off + 6, none⟩ = some (.string ((rd_T107 l0 x5_1).f2.f2)) ∧ w'.cell? ⟨(ad229.add ((x5_1).toNat * 8)).block, (ad229.add ((x5_1).toNat * 8)).off + 7, none⟩ = some (.bool ((rd_T107 l0 x5_1).f3))) (ds := []) bt8_0 (by kernel_rfl) rfl rfl ⟨(hbt HB.out hw235_0), (hbt HB.out hw235_1), (hbt HB.out hw235_2), (hbt HB.out hw235_3), (hbt HB.out hw235_4), (hbt HB.out hw235_5), (hbt HB.out hw235_6), (hbt HB.out hw235_7)⟩ (fun hHeld => ?_); refine with_tabW laws_heldShownS.tab22 laws_heldShownS.bits22 (fun HT_ HW_ => ?_)
             generalize wr.drew = w16 at HB hx235_0 hx235_1 hx235_2 hx235_3 hx235_4 hx235_5 hx235_6 hx235_7 hHeld ⊢
             refine pure_ (i := 0) (N := some 75) (v := ?_) (a' := ?_) bt8_1 rfl rfl (z8q HT_.out (by kernel_rfl)) (fun _ _ _ h => h) (Or.inl ⟨by rfl, ?_⟩) ?_ ?_
             rotate_left
             ·intro w'
              go_simp
              with_reducible rfl
             rotate_left
             ·simp only [Act.put, setIfInBounds_toArray, set_cons_zero, set_cons_succ, i64_w, i32_w]
              rfl
             refine pure_ (i := 1) (N := some 76) (v := ?_) (a' := ?_) bt8_2 rfl rfl (z8q HT_.out (by kernel_rfl)) (fun _ _ _ h => h) (Or.inl ⟨by rfl, ?_⟩) ?_ ?_
             rotate_left
             ·intro w'
              go_simp
              with_reducible rfl
             rotate_left
             ·simp only [Act.put, setIfInBounds_toArray, set_cons_zero, set_cons_succ, i64_w, i32_w]
              rfl
             refine pure_ (i := 2) (N := some 77) (v := ?_) (a' := ?_) bt8_3 rfl rfl (z8q HT_.out (by kernel_rfl)) (fun _ _ _ h => h) (Or.inl ⟨by rfl, ?_⟩) ?_ ?_
             rotate_left
             ·intro w'
              go_simp
              with_reducible rfl
             rotate_left
             ·simp only [Act.put, setIfInBounds_toArray, set_cons_zero, set_cons_succ, i64_w, i32_w]
              rfl
             refine pure_ (i := 3) (N := some 78) (v := ?_) (a' := ?_) bt8_4 rfl rfl (z8q HT_.out (by kernel_rfl)) (fun _ _ _ h => h) (Or.inl ⟨by rfl, ?_⟩) ?_ ?_
             rotate_left
             ·intro w'
              go_simp
              with_reducible rfl
             rotate_left
             ·simp only [Act.put, setIfInBounds_toArray, set_cons_zero, set_cons_succ, i64_w, i32_w]
              rfl
             refine pure_ (i := 4) (N := some 79) (v := ?_) (a' := ?_) bt8_5 rfl rfl (z8q HT_.out (by kernel_rfl)) (fun _ _ _ h => h) (Or.inl ⟨by rfl, ?_⟩) ?_ ?_
             rotate_left
             ·intro w'
              go_simp
              with_reducible rfl
             rotate_left
             ·simp only [Act.put, setIfInBounds_toArray, set_cons_zero, set_cons_succ, i64_w, i32_w]
              rfl
             refine pure_ (i := 6) (N := some 81) (v := ?_) (a' := ?_) bt8_6 rfl rfl (z8q HT_.out (by kernel_rfl)) (fun _ _ _ h => h) (Or.inl ⟨by rfl, ?_⟩) ?_ ?_
             rotate_left
             ·intro w'
              go_simp
              with_reducible rfl
             rotate_left
             ·simp only [Act.put, setIfInBounds_toArray, set_cons_zero, set_cons_succ, i64_w, i32_w]
              rfl
             refine take_ (i := 5) (N := some 80) (v := ?_) (a' := ?_) bt8_7 rfl rfl (z19q HT_.out HW_.out (by kernel_rfl)) (fun _ _ _ h => h) (Or.inl ⟨by rfl, ?_⟩) hHeld ?_ ?_
             rotate_left
             ·rintro w' ⟨s0, s1, s2, s3, s4, s5, s6, s7⟩
              go_simp
              with_reducible rfl
             rotate_left
             ·simp only [Act.put, setIfInBounds_toArray, set_cons_zero, set_cons_succ, i64_w, i32_w]
              rfl
             refine one_ (i := 7) (N := some 82) bt8_8 rfl rfl (one_of HT_.out (by kernel_rfl)) (by decide) (fun K hK => ?_)
             refine goes_ Try.func74 (by kernel_rfl) rfl #[.int .i64 (wrap64 ((wrap64 ((wrap64 ((wrap64 ((wrap64 ((wrap64 (x1_1 + 1)) + 1)) + 1)) + 1)) + 1)) + 1))] (by rfl) rfl rfl (by (try simp only [map_toArray, map_cons, map_nil]); first | done | rfl | (simp only [length_drop, length_take]; rfl)) ?_
             with_reducible refine (laws_markText.calls k1 (wrap64 ((wrap64 ((wrap64 ((wrap64 ((wrap64 ((wrap64 (x1_1 + 1)) + 1)) + 1)) + 1)) + 1)) + 1)) t236 _ A11.out).mono ?_
             rintro e w17 ⟨rfl, hb⟩
             refine ⟨_, rfl, ?_⟩
             have n0_ := Aside0.mk (z6q (ibh HB.out) hb)
             clear HB
             have HB := n0_
             clear n0_
             (try clear hb)
             (try clear hb2)
             (try clear hk)
             (try clear hi)
             refine hK.out _ _ ⟨(hbt HB.out hw235_0), (hbt HB.out hw235_1), (hbt HB.out hw235_2), (hbt HB.out hw235_3), (hbt HB.out hw235_4), (hbt HB.out hw235_5), (hbt HB.out hw235_6), (hbt HB.out hw235_7)⟩ (fun hHeld => ?_)
             clear hK K
             refine norm_ (a' := ?_) ?_ ?_
             rotate_left
             ·show Act.put _ (some 82) _ = _
              simp only [Act.put, setIfInBounds_toArray, set_cons_zero, set_cons_succ, i64_w, i32_w]
              rfl
             refine pure_ (i := 8) (N := some 83) (v := ?_) (a' := ?_) bt8_9 rfl rfl (z8q HT_.out (by kernel_rfl)) (fun _ _ _ h => h) (Or.inl ⟨by rfl, ?_⟩) ?_ ?_
             rotate_left
             ·intro w'
              go_simp
              with_reducible rfl
             rotate_left
             ·simp only [Act.put, setIfInBounds_toArray, set_cons_zero, set_cons_succ, i64_w, i32_w]
              rfl
             refine done_ (done_of HT_.out (by kernel_rfl)) ?_
             have p237 : 0 ≤ (x5_1 : Int) := of_decide_eq_true (by first | (with_reducible assumption) | assumption)
             have q237 : x5_1 < (l0.length : Int) := of_decide_eq_true (by first | (with_reducible assumption) | assumption)
             obtain ⟨ad237, e237, hx237_0, hx237_1, hx237_2, hx237_3, hx237_4, hx237_5, hx237_6, hx237_7⟩ := at_T107 HR0.out x5_1 p237 q237
             obtain rfl : ad229 = ad237 := (by injection e237)
             replace hx237_0 := (hbc HB.out hx237_0).trans hx237_0
             replace hx237_1 := (hbc HB.out hx237_1).trans hx237_1
             replace hx237_2 := (hbc HB.out hx237_2).trans hx237_2
             replace hx237_3 := (hbc HB.out hx237_3).trans hx237_3
             replace hx237_4 := (hbc HB.out hx237_4).trans hx237_4
             replace hx237_5 := (hbc HB.out hx237_5).trans hx237_5
             replace hx237_6 := (hbc HB.out hx237_6).trans hx237_6
             replace hx237_7 := (hbc HB.out hx237_7).trans hx237_7
             replace p237 := eq_true p237
             replace q237 := eq_true q237
             try go_wp2
             go_roundg k1
             case measure => have := HK1.out; omega
             case rel => exact ⟨(wrap64 ((wrap64 ((wrap64 ((wrap64 ((wrap64 ((wrap64 ((wrap64 ((wrap64 (x1_1 + 1)) + 1)) + 1)) + 1)) + 1)) + 1)) + 1)) + 1)), (wrap64 (x5_1 + 1)), (by first | rfl | (simp; done) | (simp [*]; done) | (simp; unfold wrap64; omega)), (by first | rfl | (simp; done) | (simp [*]; done) | (simp; unfold wrap64; omega)), H', ⟨by have := HK1.out; omega⟩, ⟨by repeat (first | (with_reducible first | exact HB.out | apply z7q | apply z3q | apply z4q) | exact HB.out)⟩⟩
           ·rw [if_neg c12] at H
            have c12b0 : (((rd_T107 l0 x5_1).f2.f2).toList == t236.toList) = false := beq_eq_false_iff_ne.mpr c12
            have c12b1 : (((rd_T107 l0 x5_1).f2.f2).toList != t236.toList) = true := bne_iff_ne.mpr c12
            obtain rfl := Option.some.inj H
            have p229 : 0 ≤ (x5_1 : Int) := of_decide_eq_true (by first | (with_reducible assumption) | assumption)
            have q229 : x5_1 < (l0.length : Int) := of_decide_eq_true (by first | (with_reducible assumption) | assumption)
            obtain ⟨ad229, e229, hx229_0, hx229_1, hx229_2, hx229_3, hx229_4, hx229_5, hx229_6, hx229_7⟩ := at_T107 HR0.out x5_1 p229 q229
            cases e229
            replace hx229_0 := (hbc HB.out hx229_0).trans hx229_0
            replace hx229_1 := (hbc HB.out hx229_1).trans hx229_1
            replace hx229_2 := (hbc HB.out hx229_2).trans hx229_2
            replace hx229_3 := (hbc HB.out hx229_3).trans hx229_3
            replace hx229_4 := (hbc HB.out hx229_4).trans hx229_4
            replace hx229_5 := (hbc HB.out hx229_5).trans hx229_5
            replace hx229_6 := (hbc HB.out hx229_6).trans hx229_6
            replace hx229_7 := (hbc HB.out hx229_7).trans hx229_7
            replace p229 := eq_true p229
            replace q229 := eq_true q229
            have p230 : 0 ≤ (x5_1 : Int) := of_decide_eq_true (by first | (with_reducible assumption) | assumption)
            have q230 : x5_1 < (l0.length : Int) := of_decide_eq_true (by first | (with_reducible assumption) | assumption)
            obtain ⟨ad230, e230, hx230_0, hx230_1, hx230_2, hx230_3, hx230_4, hx230_5, hx230_6, hx230_7⟩ := at_T107 HR0.out x5_1 p230 q230
            obtain rfl : ad229 = ad230 := (by injection e230)
            replace hx230_0 := (hbc HB.out hx230_0).trans hx230_0
            replace hx230_1 := (hbc HB.out hx230_1).trans hx230_1
            replace hx230_2 := (hbc HB.out hx230_2).trans hx230_2
            replace hx230_3 := (hbc HB.out hx230_3).trans hx230_3
            replace hx230_4 := (hbc HB.out hx230_4).trans hx230_4
            replace hx230_5 := (hbc HB.out hx230_5).trans hx230_5
            replace hx230_6 := (hbc HB.out hx230_6).trans hx230_6
            replace hx230_7 := (hbc HB.out hx230_7).trans hx230_7
            replace p230 := eq_true p230
            replace q230 := eq_true q230
            have p231 : 0 ≤ (x5_1 : Int) := of_decide_eq_true (by first | (with_reducible assumption) | assumption)
            have q231 : x5_1 < (l0.length : Int) := of_decide_eq_true (by first | (with_reducible assumption) | assumption)
            obtain ⟨ad231, e231, hx231_0, hx231_1, hx231_2, hx231_3, hx231_4, hx231_5, hx231_6, hx231_7⟩ := at_T107 HR0.out x5_1 p231 q231
            obtain rfl : ad229 = ad231 := (by injection e231)
            replace hx231_0 := (hbc HB.out hx231_0).trans hx231_0
            replace hx231_1 := (hbc HB.out hx231_1).trans hx231_1
            replace hx231_2 := (hbc HB.out hx231_2).trans hx231_2
            replace hx231_3 := (hbc HB.out hx231_3).trans hx231_3
            replace hx231_4 := (hbc HB.out hx231_4).trans hx231_4
            replace hx231_5 := (hbc HB.out hx231_5).trans hx231_5
            replace hx231_6 := (hbc HB.out hx231_6).trans hx231_6
            replace hx231_7 := (hbc HB.out hx231_7).trans hx231_7
            replace p231 := eq_true p231
            replace q231 := eq_true q231
            have p232 : 0 ≤ (x5_1 : Int) := of_decide_eq_true (by first | (with_reducible assumption) | assumption)
            have q232 : x5_1 < (l0.length : Int) := of_decide_eq_true (by first | (with_reducible assumption) | assumption)
            obtain ⟨ad232, e232, hx232_0, hx232_1, hx232_2, hx232_3, hx232_4, hx232_5, hx232_6, hx232_7⟩ := at_T107 HR0.out x5_1 p232 q232
            obtain rfl : ad229 = ad232 := (by injection e232)
            replace hx232_0 := (hbc HB.out hx232_0).trans hx232_0
            replace hx232_1 := (hbc HB.out hx232_1).trans hx232_1
            replace hx232_2 := (hbc HB.out hx232_2).trans hx232_2
            replace hx232_3 := (hbc HB.out hx232_3).trans hx232_3
            replace hx232_4 := (hbc HB.out hx232_4).trans hx232_4
            replace hx232_5 := (hbc HB.out hx232_5).trans hx232_5
            replace hx232_6 := (hbc HB.out hx232_6).trans hx232_6
            replace hx232_7 := (hbc HB.out hx232_7).trans hx232_7
            replace p232 := eq_true p232
            replace q232 := eq_true q232
            have p233 : 0 ≤ (x5_1 : Int) := of_decide_eq_true (by first | (with_reducible assumption) | assumption)
            have q233 : x5_1 < (l0.length : Int) := of_decide_eq_true (by first | (with_reducible assumption) | assumption)
            obtain ⟨ad233, e233, hx233_0, hx233_1, hx233_2, hx233_3, hx233_4, hx233_5, hx233_6, hx233_7⟩ := at_T107 HR0.out x5_1 p233 q233
            obtain rfl : ad229 = ad233 := (by injection e233)
            replace hx233_0 := (hbc HB.out hx233_0).trans hx233_0
            replace hx233_1 := (hbc HB.out hx233_1).trans hx233_1
            replace hx233_2 := (hbc HB.out hx233_2).trans hx233_2
            replace hx233_3 := (hbc HB.out hx233_3).trans hx233_3
            replace hx233_4 := (hbc HB.out hx233_4).trans hx233_4
            replace hx233_5 := (hbc HB.out hx233_5).trans hx233_5
            replace hx233_6 := (hbc HB.out hx233_6).trans hx233_6
            replace hx233_7 := (hbc HB.out hx233_7).trans hx233_7
            replace p233 := eq_true p233
            replace q233 := eq_true q233
            have p234 : 0 ≤ (x5_1 : Int) := of_decide_eq_true (by first | (with_reducible assumption) | assumption)
            have q234 : x5_1 < (l0.length : Int) := of_decide_eq_true (by first | (with_reducible assumption) | assumption)
            obtain ⟨ad234, e234, hx234_0, hx234_1, hx234_2, hx234_3, hx234_4, hx234_5, hx234_6, hx234_7⟩ := at_T107 HR0.out x5_1 p234 q234
            obtain rfl : ad229 = ad234 := (by injection e234)
            replace hx234_0 := (hbc HB.out hx234_0).trans hx234_0
            replace hx234_1 := (hbc HB.out hx234_1).trans hx234_1
            replace hx234_2 := (hbc HB.out hx234_2).trans hx234_2
            replace hx234_3 := (hbc HB.out hx234_3).trans hx234_3
            replace hx234_4 := (hbc HB.out hx234_4).trans hx234_4
            replace hx234_5 := (hbc HB.out hx234_5).trans hx234_5
            replace hx234_6 := (hbc HB.out hx234_6).trans hx234_6
            replace hx234_7 := (hbc HB.out hx234_7).trans hx234_7
            replace p234 := eq_true p234
            replace q234 := eq_true q234
            try go_wp2
            have n0_ := Aside0.mk (z4q HB.out)
            clear HB
            have HB := n0_
            clear n0_
            have p235 : 0 ≤ (x5_1 : Int) := of_decide_eq_true (by first | (with_reducible assumption) | assumption)
            have q235 : x5_1 < (l0.length : Int) := of_decide_eq_true (by first | (with_reducible assumption) | assumption)
            obtain ⟨ad235, e235, hx235_0, hx235_1, hx235_2, hx235_3, hx235_4, hx235_5, hx235_6, hx235_7⟩ := at_T107 HR0.out x5_1 p235 q235
            have hw235_7 := hx235_7
            have hw235_6 := hx235_6
            have hw235_5 := hx235_5
            have hw235_4 := hx235_4
            have hw235_3 := hx235_3
            have hw235_2 := hx235_2
            have hw235_1 := hx235_1
            have hw235_0 := hx235_0
            obtain rfl : ad229 = ad235 := (by injection e235)
            replace hx235_0 := (hbc HB.out hx235_0).trans hx235_0
            replace hx235_1 := (hbc HB.out hx235_1).trans hx235_1
            replace hx235_2 := (hbc HB.out hx235_2).trans hx235_2
            replace hx235_3 := (hbc HB.out hx235_3).trans hx235_3
            replace hx235_4 := (hbc HB.out hx235_4).trans hx235_4
            replace hx235_5 := (hbc HB.out hx235_5).trans hx235_5
            replace hx235_6 := (hbc HB.out hx235_6).trans hx235_6
            replace hx235_7 := (hbc HB.out hx235_7).trans hx235_7
            replace p235 := eq_true p235
            replace q235 := eq_true q235
            refine start_ (n := 9) (S := fun w' => w'.cell? (ad229.add ((x5_1).toNat * 8)) = some (.int .i64 ((rd_T107 l0 x5_1).f0)) ∧ w'.cell? ⟨(ad229.add ((x5_1).toNat * 8)).block, (ad229.add ((x5_1).toNat * 8)).off + 1, none⟩ = some (.int .i64 ((rd_T107 l0 x5_1).f1)) ∧ w'.cell? ⟨(ad229.add ((x5_1).toNat * 8)).block, (ad229.add ((x5_1).toNat * 8)).off + 2, none⟩ = some (.int .i64 ((rd_T107 l0 x5_1).f2.f0)) ∧ w'.cell? ⟨(ad229.add ((x5_1).toNat * 8)).block, (ad229.add ((x5_1).toNat * 8)).off + 3, none⟩ = some (.bool ((rd_T107 l0 x5_1).f2.f1.f0)) ∧ w'.cell? ⟨(ad229.add ((x5_1).toNat * 8)).block, (ad229.add ((x5_1).toNat * 8)).off + 4, none⟩ = some (.int .i64 ((rd_T107 l0 x5_1).f2.f1.f1)) ∧ w'.cell? ⟨(ad229.add ((x5_1).toNat * 8)).block, (ad229.add ((x5_1).toNat * 8)).off + 5, none⟩ = some (.int .i64 ((rd_T107 l0 x5_1).f2.f1.f2)) ∧ w'.cell? ⟨(ad229.add ((x5_1).toNat * 8)).block, (ad229.add ((x5_1).toNat * 8)).off + 6, none⟩ = some (.string ((rd_T107 l0 x5_1).f2.f2)) ∧ w'.cell? ⟨(ad229.add ((x5_1).toNat * 8)).block, (ad229.add ((x5_1).toNat * 8)).off + 7, none⟩ = some (.bool ((rd_T107 l0 x5_1).f3))) (ds := []) bt8_0 (by kernel_rfl) rfl rfl ⟨(hbt HB.out hw235_0), (hbt HB.out hw235_1), (hbt HB.out hw235_2), (hbt HB.out hw235_3), (hbt HB.out hw235_4), (hbt HB.out hw235_5), (hbt HB.out hw235_6), (hbt HB.out hw235_7)⟩ (fun hHeld => ?_); refine with_tabW laws_heldShownS.tab22 laws_heldShownS.bits22 (fun HT_ HW_ => ?_)
            generalize wr.drew = w18 at HB hx235_0 hx235_1 hx235_2 hx235_3 hx235_4 hx235_5 hx235_6 hx235_7 hHeld ⊢
            refine pure_ (i := 0) (N := some 75) (v := ?_) (a' := ?_) bt8_1 rfl rfl (z8q HT_.out (by kernel_rfl)) (fun _ _ _ h => h) (Or.inl ⟨by rfl, ?_⟩) ?_ ?_
            rotate_left
            ·intro w'
             go_simp
             with_reducible rfl
            rotate_left
            ·simp only [Act.put, setIfInBounds_toArray, set_cons_zero, set_cons_succ, i64_w, i32_w]
             rfl
            refine pure_ (i := 1) (N := some 76) (v := ?_) (a' := ?_) bt8_2 rfl rfl (z8q HT_.out (by kernel_rfl)) (fun _ _ _ h => h) (Or.inl ⟨by rfl, ?_⟩) ?_ ?_
            rotate_left
            ·intro w'
             go_simp
             with_reducible rfl
            rotate_left
            ·simp only [Act.put, setIfInBounds_toArray, set_cons_zero, set_cons_succ, i64_w, i32_w]
             rfl
            refine pure_ (i := 2) (N := some 77) (v := ?_) (a' := ?_) bt8_3 rfl rfl (z8q HT_.out (by kernel_rfl)) (fun _ _ _ h => h) (Or.inl ⟨by rfl, ?_⟩) ?_ ?_
            rotate_left
            ·intro w'
             go_simp
             with_reducible rfl
            rotate_left
            ·simp only [Act.put, setIfInBounds_toArray, set_cons_zero, set_cons_succ, i64_w, i32_w]
             rfl
            refine pure_ (i := 3) (N := some 78) (v := ?_) (a' := ?_) bt8_4 rfl rfl (z8q HT_.out (by kernel_rfl)) (fun _ _ _ h => h) (Or.inl ⟨by rfl, ?_⟩) ?_ ?_
            rotate_left
            ·intro w'
             go_simp
             with_reducible rfl
            rotate_left
            ·simp only [Act.put, setIfInBounds_toArray, set_cons_zero, set_cons_succ, i64_w, i32_w]
             rfl
            refine pure_ (i := 4) (N := some 79) (v := ?_) (a' := ?_) bt8_5 rfl rfl (z8q HT_.out (by kernel_rfl)) (fun _ _ _ h => h) (Or.inl ⟨by rfl, ?_⟩) ?_ ?_
            rotate_left
            ·intro w'
             go_simp
             with_reducible rfl
            rotate_left
            ·simp only [Act.put, setIfInBounds_toArray, set_cons_zero, set_cons_succ, i64_w, i32_w]
             rfl
            refine pure_ (i := 6) (N := some 81) (v := ?_) (a' := ?_) bt8_6 rfl rfl (z8q HT_.out (by kernel_rfl)) (fun _ _ _ h => h) (Or.inl ⟨by rfl, ?_⟩) ?_ ?_
            rotate_left
            ·intro w'
             go_simp
             with_reducible rfl
            rotate_left
            ·simp only [Act.put, setIfInBounds_toArray, set_cons_zero, set_cons_succ, i64_w, i32_w]
             rfl
            refine take_ (i := 5) (N := some 80) (v := ?_) (a' := ?_) bt8_7 rfl rfl (z19q HT_.out HW_.out (by kernel_rfl)) (fun _ _ _ h => h) (Or.inl ⟨by rfl, ?_⟩) hHeld ?_ ?_
            rotate_left
            ·rintro w' ⟨s0, s1, s2, s3, s4, s5, s6, s7⟩
             go_simp
             with_reducible rfl
            rotate_left
            ·simp only [Act.put, setIfInBounds_toArray, set_cons_zero, set_cons_succ, i64_w, i32_w]
             rfl
            refine one_ (i := 7) (N := some 82) bt8_8 rfl rfl (one_of HT_.out (by kernel_rfl)) (by decide) (fun K hK => ?_)
            refine goes_ Try.func74 (by kernel_rfl) rfl #[.int .i64 (wrap64 ((wrap64 ((wrap64 ((wrap64 ((wrap64 ((wrap64 (x1_1 + 1)) + 1)) + 1)) + 1)) + 1)) + 1))] (by rfl) rfl rfl (by (try simp only [map_toArray, map_cons, map_nil]); first | done | rfl | (simp only [length_drop, length_take]; rfl)) ?_
            with_reducible refine (laws_markText.calls k1 (wrap64 ((wrap64 ((wrap64 ((wrap64 ((wrap64 ((wrap64 (x1_1 + 1)) + 1)) + 1)) + 1)) + 1)) + 1)) t236 _ A11.out).mono ?_
            rintro e w19 ⟨rfl, hb⟩
            refine ⟨_, rfl, ?_⟩
            have n0_ := Aside0.mk (z6q (ibh HB.out) hb)
            clear HB
            have HB := n0_
            clear n0_
            (try clear hb)
            (try clear hb2)
            (try clear hk)
            (try clear hi)
            refine hK.out _ _ ⟨(hbt HB.out hw235_0), (hbt HB.out hw235_1), (hbt HB.out hw235_2), (hbt HB.out hw235_3), (hbt HB.out hw235_4), (hbt HB.out hw235_5), (hbt HB.out hw235_6), (hbt HB.out hw235_7)⟩ (fun hHeld => ?_)
            clear hK K
            refine norm_ (a' := ?_) ?_ ?_
            rotate_left
            ·show Act.put _ (some 82) _ = _
             simp only [Act.put, setIfInBounds_toArray, set_cons_zero, set_cons_succ, i64_w, i32_w]
             rfl
            refine pure_ (i := 8) (N := some 83) (v := ?_) (a' := ?_) bt8_9 rfl rfl (z8q HT_.out (by kernel_rfl)) (fun _ _ _ h => h) (Or.inl ⟨by rfl, ?_⟩) ?_ ?_
            rotate_left
            ·intro w'
             go_simp
             with_reducible rfl
            rotate_left
            ·simp only [Act.put, setIfInBounds_toArray, set_cons_zero, set_cons_succ, i64_w, i32_w]
             rfl
            refine done_ (done_of HT_.out (by kernel_rfl)) ?_
            try go_wp2
            go_ret
            exact ⟨by first | rfl | (simp [errW_none, errW_some] <;> rfl) | (simp [*, errW_none, errW_some] <;> rfl), by repeat (first | (with_reducible first | exact HB.out | apply z7q | apply z3q | apply z4q) | exact HB.out)⟩
          ·rw [if_neg c10] at H
           have c10b0 : (((rd_T107 l0 x5_1).f2.f1.f2) == (wrap64 ((wrap64 ((wrap64 ((wrap64 ((wrap64 (x1_1 + 1)) + 1)) + 1)) + 1)) + 1))) = false := beq_eq_false_iff_ne.mpr c10
           have c10b1 : (((rd_T107 l0 x5_1).f2.f1.f2) != (wrap64 ((wrap64 ((wrap64 ((wrap64 ((wrap64 (x1_1 + 1)) + 1)) + 1)) + 1)) + 1))) = true := bne_iff_ne.mpr c10
           obtain rfl := Option.some.inj H
           have p229 : 0 ≤ (x5_1 : Int) := of_decide_eq_true (by first | (with_reducible assumption) | assumption)
           have q229 : x5_1 < (l0.length : Int) := of_decide_eq_true (by first | (with_reducible assumption) | assumption)
           obtain ⟨ad229, e229, hx229_0, hx229_1, hx229_2, hx229_3, hx229_4, hx229_5, hx229_6, hx229_7⟩ := at_T107 HR0.out x5_1 p229 q229
           cases e229
           replace hx229_0 := (hbc HB.out hx229_0).trans hx229_0
           replace hx229_1 := (hbc HB.out hx229_1).trans hx229_1
           replace hx229_2 := (hbc HB.out hx229_2).trans hx229_2
           replace hx229_3 := (hbc HB.out hx229_3).trans hx229_3
           replace hx229_4 := (hbc HB.out hx229_4).trans hx229_4
           replace hx229_5 := (hbc HB.out hx229_5).trans hx229_5
           replace hx229_6 := (hbc HB.out hx229_6).trans hx229_6
           replace hx229_7 := (hbc HB.out hx229_7).trans hx229_7
           replace p229 := eq_true p229
           replace q229 := eq_true q229
           have p230 : 0 ≤ (x5_1 : Int) := of_decide_eq_true (by first | (with_reducible assumption) | assumption)
           have q230 : x5_1 < (l0.length : Int) := of_decide_eq_true (by first | (with_reducible assumption) | assumption)
           obtain ⟨ad230, e230, hx230_0, hx230_1, hx230_2, hx230_3, hx230_4, hx230_5, hx230_6, hx230_7⟩ := at_T107 HR0.out x5_1 p230 q230
           obtain rfl : ad229 = ad230 := (by injection e230)
           replace hx230_0 := (hbc HB.out hx230_0).trans hx230_0
           replace hx230_1 := (hbc HB.out hx230_1).trans hx230_1
           replace hx230_2 := (hbc HB.out hx230_2).trans hx230_2
           replace hx230_3 := (hbc HB.out hx230_3).trans hx230_3
           replace hx230_4 := (hbc HB.out hx230_4).trans hx230_4
           replace hx230_5 := (hbc HB.out hx230_5).trans hx230_5
           replace hx230_6 := (hbc HB.out hx230_6).trans hx230_6
           replace hx230_7 := (hbc HB.out hx230_7).trans hx230_7
           replace p230 := eq_true p230
           replace q230 := eq_true q230
           have p231 : 0 ≤ (x5_1 : Int) := of_decide_eq_true (by first | (with_reducible assumption) | assumption)
           have q231 : x5_1 < (l0.length : Int) := of_decide_eq_true (by first | (with_reducible assumption) | assumption)
           obtain ⟨ad231, e231, hx231_0, hx231_1, hx231_2, hx231_3, hx231_4, hx231_5, hx231_6, hx231_7⟩ := at_T107 HR0.out x5_1 p231 q231
           obtain rfl : ad229 = ad231 := (by injection e231)
           replace hx231_0 := (hbc HB.out hx231_0).trans hx231_0
           replace hx231_1 := (hbc HB.out hx231_1).trans hx231_1
           replace hx231_2 := (hbc HB.out hx231_2).trans hx231_2
           replace hx231_3 := (hbc HB.out hx231_3).trans hx231_3
           replace hx231_4 := (hbc HB.out hx231_4).trans hx231_4
           replace hx231_5 := (hbc HB.out hx231_5).trans hx231_5
           replace hx231_6 := (hbc HB.out hx231_6).trans hx231_6
           replace hx231_7 := (hbc HB.out hx231_7).trans hx231_7
           replace p231 := eq_true p231
           replace q231 := eq_true q231
           have p232 : 0 ≤ (x5_1 : Int) := of_decide_eq_true (by first | (with_reducible assumption) | assumption)
           have q232 : x5_1 < (l0.length : Int) := of_decide_eq_true (by first | (with_reducible assumption) | assumption)
           obtain ⟨ad232, e232, hx232_0, hx232_1, hx232_2, hx232_3, hx232_4, hx232_5, hx232_6, hx232_7⟩ := at_T107 HR0.out x5_1 p232 q232
           obtain rfl : ad229 = ad232 := (by injection e232)
           replace hx232_0 := (hbc HB.out hx232_0).trans hx232_0
           replace hx232_1 := (hbc HB.out hx232_1).trans hx232_1
           replace hx232_2 := (hbc HB.out hx232_2).trans hx232_2
           replace hx232_3 := (hbc HB.out hx232_3).trans hx232_3
           replace hx232_4 := (hbc HB.out hx232_4).trans hx232_4
           replace hx232_5 := (hbc HB.out hx232_5).trans hx232_5
           replace hx232_6 := (hbc HB.out hx232_6).trans hx232_6
           replace hx232_7 := (hbc HB.out hx232_7).trans hx232_7
           replace p232 := eq_true p232
           replace q232 := eq_true q232
           have p233 : 0 ≤ (x5_1 : Int) := of_decide_eq_true (by first | (with_reducible assumption) | assumption)
           have q233 : x5_1 < (l0.length : Int) := of_decide_eq_true (by first | (with_reducible assumption) | assumption)
           obtain ⟨ad233, e233, hx233_0, hx233_1, hx233_2, hx233_3, hx233_4, hx233_5, hx233_6, hx233_7⟩ := at_T107 HR0.out x5_1 p233 q233
           obtain rfl : ad229 = ad233 := (by injection e233)
           replace hx233_0 := (hbc HB.out hx233_0).trans hx233_0
           replace hx233_1 := (hbc HB.out hx233_1).trans hx233_1
           replace hx233_2 := (hbc HB.out hx233_2).trans hx233_2
           replace hx233_3 := (hbc HB.out hx233_3).trans hx233_3
           replace hx233_4 := (hbc HB.out hx233_4).trans hx233_4
           replace hx233_5 := (hbc HB.out hx233_5).trans hx233_5
           replace hx233_6 := (hbc HB.out hx233_6).trans hx233_6
           replace hx233_7 := (hbc HB.out hx233_7).trans hx233_7
           replace p233 := eq_true p233
           replace q233 := eq_true q233
           have p234 : 0 ≤ (x5_1 : Int) := of_decide_eq_true (by first | (with_reducible assumption) | assumption)
           have q234 : x5_1 < (l0.length : Int) := of_decide_eq_true (by first | (with_reducible assumption) | assumption)
           obtain ⟨ad234, e234, hx234_0, hx234_1, hx234_2, hx234_3, hx234_4, hx234_5, hx234_6, hx234_7⟩ := at_T107 HR0.out x5_1 p234 q234
           obtain rfl : ad229 = ad234 := (by injection e234)
           replace hx234_0 := (hbc HB.out hx234_0).trans hx234_0
           replace hx234_1 := (hbc HB.out hx234_1).trans hx234_1
           replace hx234_2 := (hbc HB.out hx234_2).trans hx234_2
           replace hx234_3 := (hbc HB.out hx234_3).trans hx234_3
           replace hx234_4 := (hbc HB.out hx234_4).trans hx234_4
           replace hx234_5 := (hbc HB.out hx234_5).trans hx234_5
           replace hx234_6 := (hbc HB.out hx234_6).trans hx234_6
           replace hx234_7 := (hbc HB.out hx234_7).trans hx234_7
           replace p234 := eq_true p234
           replace q234 := eq_true q234
           go_wp2
           go_ret
           exact ⟨by first | rfl | (simp [errW_none, errW_some] <;> rfl) | (simp [*, errW_none, errW_some] <;> rfl), by repeat (first | (with_reducible first | exact HB.out | apply z7q | apply z3q | apply z4q) | exact HB.out)⟩
         ·rw [if_neg c9] at H
          have c9b0 : (((rd_T107 l0 x5_1).f2.f1.f1) == (wrap64 ((wrap64 ((wrap64 ((wrap64 (x1_1 + 1)) + 1)) + 1)) + 1))) = false := beq_eq_false_iff_ne.mpr c9
          have c9b1 : (((rd_T107 l0 x5_1).f2.f1.f1) != (wrap64 ((wrap64 ((wrap64 ((wrap64 (x1_1 + 1)) + 1)) + 1)) + 1))) = true := bne_iff_ne.mpr c9
          obtain rfl := Option.some.inj H
          have p229 : 0 ≤ (x5_1 : Int) := of_decide_eq_true (by first | (with_reducible assumption) | assumption)
          have q229 : x5_1 < (l0.length : Int) := of_decide_eq_true (by first | (with_reducible assumption) | assumption)
          obtain ⟨ad229, e229, hx229_0, hx229_1, hx229_2, hx229_3, hx229_4, hx229_5, hx229_6, hx229_7⟩ := at_T107 HR0.out x5_1 p229 q229
          cases e229
          replace hx229_0 := (hbc HB.out hx229_0).trans hx229_0
          replace hx229_1 := (hbc HB.out hx229_1).trans hx229_1
          replace hx229_2 := (hbc HB.out hx229_2).trans hx229_2
          replace hx229_3 := (hbc HB.out hx229_3).trans hx229_3
          replace hx229_4 := (hbc HB.out hx229_4).trans hx229_4
          replace hx229_5 := (hbc HB.out hx229_5).trans hx229_5
          replace hx229_6 := (hbc HB.out hx229_6).trans hx229_6
          replace hx229_7 := (hbc HB.out hx229_7).trans hx229_7
          replace p229 := eq_true p229
          replace q229 := eq_true q229
          have p230 : 0 ≤ (x5_1 : Int) := of_decide_eq_true (by first | (with_reducible assumption) | assumption)
          have q230 : x5_1 < (l0.length : Int) := of_decide_eq_true (by first | (with_reducible assumption) | assumption)
          obtain ⟨ad230, e230, hx230_0, hx230_1, hx230_2, hx230_3, hx230_4, hx230_5, hx230_6, hx230_7⟩ := at_T107 HR0.out x5_1 p230 q230
          obtain rfl : ad229 = ad230 := (by injection e230)
          replace hx230_0 := (hbc HB.out hx230_0).trans hx230_0
          replace hx230_1 := (hbc HB.out hx230_1).trans hx230_1
          replace hx230_2 := (hbc HB.out hx230_2).trans hx230_2
          replace hx230_3 := (hbc HB.out hx230_3).trans hx230_3
          replace hx230_4 := (hbc HB.out hx230_4).trans hx230_4
          replace hx230_5 := (hbc HB.out hx230_5).trans hx230_5
          replace hx230_6 := (hbc HB.out hx230_6).trans hx230_6
          replace hx230_7 := (hbc HB.out hx230_7).trans hx230_7
          replace p230 := eq_true p230
          replace q230 := eq_true q230
          have p231 : 0 ≤ (x5_1 : Int) := of_decide_eq_true (by first | (with_reducible assumption) | assumption)
          have q231 : x5_1 < (l0.length : Int) := of_decide_eq_true (by first | (with_reducible assumption) | assumption)
          obtain ⟨ad231, e231, hx231_0, hx231_1, hx231_2, hx231_3, hx231_4, hx231_5, hx231_6, hx231_7⟩ := at_T107 HR0.out x5_1 p231 q231
          obtain rfl : ad229 = ad231 := (by injection e231)
          replace hx231_0 := (hbc HB.out hx231_0).trans hx231_0
          replace hx231_1 := (hbc HB.out hx231_1).trans hx231_1
          replace hx231_2 := (hbc HB.out hx231_2).trans hx231_2
          replace hx231_3 := (hbc HB.out hx231_3).trans hx231_3
          replace hx231_4 := (hbc HB.out hx231_4).trans hx231_4
          replace hx231_5 := (hbc HB.out hx231_5).trans hx231_5
          replace hx231_6 := (hbc HB.out hx231_6).trans hx231_6
          replace hx231_7 := (hbc HB.out hx231_7).trans hx231_7
          replace p231 := eq_true p231
          replace q231 := eq_true q231
          have p232 : 0 ≤ (x5_1 : Int) := of_decide_eq_true (by first | (with_reducible assumption) | assumption)
          have q232 : x5_1 < (l0.length : Int) := of_decide_eq_true (by first | (with_reducible assumption) | assumption)
          obtain ⟨ad232, e232, hx232_0, hx232_1, hx232_2, hx232_3, hx232_4, hx232_5, hx232_6, hx232_7⟩ := at_T107 HR0.out x5_1 p232 q232
          obtain rfl : ad229 = ad232 := (by injection e232)
          replace hx232_0 := (hbc HB.out hx232_0).trans hx232_0
          replace hx232_1 := (hbc HB.out hx232_1).trans hx232_1
          replace hx232_2 := (hbc HB.out hx232_2).trans hx232_2
          replace hx232_3 := (hbc HB.out hx232_3).trans hx232_3
          replace hx232_4 := (hbc HB.out hx232_4).trans hx232_4
          replace hx232_5 := (hbc HB.out hx232_5).trans hx232_5
          replace hx232_6 := (hbc HB.out hx232_6).trans hx232_6
          replace hx232_7 := (hbc HB.out hx232_7).trans hx232_7
          replace p232 := eq_true p232
          replace q232 := eq_true q232
          have p233 : 0 ≤ (x5_1 : Int) := of_decide_eq_true (by first | (with_reducible assumption) | assumption)
          have q233 : x5_1 < (l0.length : Int) := of_decide_eq_true (by first | (with_reducible assumption) | assumption)
          obtain ⟨ad233, e233, hx233_0, hx233_1, hx233_2, hx233_3, hx233_4, hx233_5, hx233_6, hx233_7⟩ := at_T107 HR0.out x5_1 p233 q233
          obtain rfl : ad229 = ad233 := (by injection e233)
          replace hx233_0 := (hbc HB.out hx233_0).trans hx233_0
          replace hx233_1 := (hbc HB.out hx233_1).trans hx233_1
          replace hx233_2 := (hbc HB.out hx233_2).trans hx233_2
          replace hx233_3 := (hbc HB.out hx233_3).trans hx233_3
          replace hx233_4 := (hbc HB.out hx233_4).trans hx233_4
          replace hx233_5 := (hbc HB.out hx233_5).trans hx233_5
          replace hx233_6 := (hbc HB.out hx233_6).trans hx233_6
          replace hx233_7 := (hbc HB.out hx233_7).trans hx233_7
          replace p233 := eq_true p233
          replace q233 := eq_true q233
          go_wp2
          go_ret
          exact ⟨by first | rfl | (simp [errW_none, errW_some] <;> rfl) | (simp [*, errW_none, errW_some] <;> rfl), by repeat (first | (with_reducible first | exact HB.out | apply z7q | apply z3q | apply z4q) | exact HB.out)⟩
       ·rw [if_neg c7] at H
        have c7b0 : (((rd_T107 l0 x5_1).f2.f0) == (wrap64 ((wrap64 (x1_1 + 1)) + 1))) = false := beq_eq_false_iff_ne.mpr c7
        have c7b1 : (((rd_T107 l0 x5_1).f2.f0) != (wrap64 ((wrap64 (x1_1 + 1)) + 1))) = true := bne_iff_ne.mpr c7
        obtain rfl := Option.some.inj H
        have p229 : 0 ≤ (x5_1 : Int) := of_decide_eq_true (by first | (with_reducible assumption) | assumption)
        have q229 : x5_1 < (l0.length : Int) := of_decide_eq_true (by first | (with_reducible assumption) | assumption)
        obtain ⟨ad229, e229, hx229_0, hx229_1, hx229_2, hx229_3, hx229_4, hx229_5, hx229_6, hx229_7⟩ := at_T107 HR0.out x5_1 p229 q229
        cases e229
        replace hx229_0 := (hbc HB.out hx229_0).trans hx229_0
        replace hx229_1 := (hbc HB.out hx229_1).trans hx229_1
        replace hx229_2 := (hbc HB.out hx229_2).trans hx229_2
        replace hx229_3 := (hbc HB.out hx229_3).trans hx229_3
        replace hx229_4 := (hbc HB.out hx229_4).trans hx229_4
        replace hx229_5 := (hbc HB.out hx229_5).trans hx229_5
        replace hx229_6 := (hbc HB.out hx229_6).trans hx229_6
        replace hx229_7 := (hbc HB.out hx229_7).trans hx229_7
        replace p229 := eq_true p229
        replace q229 := eq_true q229
        have p230 : 0 ≤ (x5_1 : Int) := of_decide_eq_true (by first | (with_reducible assumption) | assumption)
        have q230 : x5_1 < (l0.length : Int) := of_decide_eq_true (by first | (with_reducible assumption) | assumption)
        obtain ⟨ad230, e230, hx230_0, hx230_1, hx230_2, hx230_3, hx230_4, hx230_5, hx230_6, hx230_7⟩ := at_T107 HR0.out x5_1 p230 q230
        obtain rfl : ad229 = ad230 := (by injection e230)
        replace hx230_0 := (hbc HB.out hx230_0).trans hx230_0
        replace hx230_1 := (hbc HB.out hx230_1).trans hx230_1
        replace hx230_2 := (hbc HB.out hx230_2).trans hx230_2
        replace hx230_3 := (hbc HB.out hx230_3).trans hx230_3
        replace hx230_4 := (hbc HB.out hx230_4).trans hx230_4
        replace hx230_5 := (hbc HB.out hx230_5).trans hx230_5
        replace hx230_6 := (hbc HB.out hx230_6).trans hx230_6
        replace hx230_7 := (hbc HB.out hx230_7).trans hx230_7
        replace p230 := eq_true p230
        replace q230 := eq_true q230
        have p231 : 0 ≤ (x5_1 : Int) := of_decide_eq_true (by first | (with_reducible assumption) | assumption)
        have q231 : x5_1 < (l0.length : Int) := of_decide_eq_true (by first | (with_reducible assumption) | assumption)
        obtain ⟨ad231, e231, hx231_0, hx231_1, hx231_2, hx231_3, hx231_4, hx231_5, hx231_6, hx231_7⟩ := at_T107 HR0.out x5_1 p231 q231
        obtain rfl : ad229 = ad231 := (by injection e231)
        replace hx231_0 := (hbc HB.out hx231_0).trans hx231_0
        replace hx231_1 := (hbc HB.out hx231_1).trans hx231_1
        replace hx231_2 := (hbc HB.out hx231_2).trans hx231_2
        replace hx231_3 := (hbc HB.out hx231_3).trans hx231_3
        replace hx231_4 := (hbc HB.out hx231_4).trans hx231_4
        replace hx231_5 := (hbc HB.out hx231_5).trans hx231_5
        replace hx231_6 := (hbc HB.out hx231_6).trans hx231_6
        replace hx231_7 := (hbc HB.out hx231_7).trans hx231_7
        replace p231 := eq_true p231
        replace q231 := eq_true q231
        go_wp2
        go_ret
        exact ⟨by first | rfl | (simp [errW_none, errW_some] <;> rfl) | (simp [*, errW_none, errW_some] <;> rfl), by repeat (first | (with_reducible first | exact HB.out | apply z7q | apply z3q | apply z4q) | exact HB.out)⟩
      ·rw [if_neg c6] at H
       have c6b0 : (((rd_T107 l0 x5_1).f1) == (wrap64 (x1_1 + 1))) = false := beq_eq_false_iff_ne.mpr c6
       have c6b1 : (((rd_T107 l0 x5_1).f1) != (wrap64 (x1_1 + 1))) = true := bne_iff_ne.mpr c6
       obtain rfl := Option.some.inj H
       have p229 : 0 ≤ (x5_1 : Int) := of_decide_eq_true (by first | (with_reducible assumption) | assumption)
       have q229 : x5_1 < (l0.length : Int) := of_decide_eq_true (by first | (with_reducible assumption) | assumption)
       obtain ⟨ad229, e229, hx229_0, hx229_1, hx229_2, hx229_3, hx229_4, hx229_5, hx229_6, hx229_7⟩ := at_T107 HR0.out x5_1 p229 q229
       cases e229
       replace hx229_0 := (hbc HB.out hx229_0).trans hx229_0
       replace hx229_1 := (hbc HB.out hx229_1).trans hx229_1
       replace hx229_2 := (hbc HB.out hx229_2).trans hx229_2
       replace hx229_3 := (hbc HB.out hx229_3).trans hx229_3
       replace hx229_4 := (hbc HB.out hx229_4).trans hx229_4
       replace hx229_5 := (hbc HB.out hx229_5).trans hx229_5
       replace hx229_6 := (hbc HB.out hx229_6).trans hx229_6
       replace hx229_7 := (hbc HB.out hx229_7).trans hx229_7
       replace p229 := eq_true p229
       replace q229 := eq_true q229
       have p230 : 0 ≤ (x5_1 : Int) := of_decide_eq_true (by first | (with_reducible assumption) | assumption)
       have q230 : x5_1 < (l0.length : Int) := of_decide_eq_true (by first | (with_reducible assumption) | assumption)
       obtain ⟨ad230, e230, hx230_0, hx230_1, hx230_2, hx230_3, hx230_4, hx230_5, hx230_6, hx230_7⟩ := at_T107 HR0.out x5_1 p230 q230
       obtain rfl : ad229 = ad230 := (by injection e230)
       replace hx230_0 := (hbc HB.out hx230_0).trans hx230_0
       replace hx230_1 := (hbc HB.out hx230_1).trans hx230_1
       replace hx230_2 := (hbc HB.out hx230_2).trans hx230_2
       replace hx230_3 := (hbc HB.out hx230_3).trans hx230_3
       replace hx230_4 := (hbc HB.out hx230_4).trans hx230_4
       replace hx230_5 := (hbc HB.out hx230_5).trans hx230_5
       replace hx230_6 := (hbc HB.out hx230_6).trans hx230_6
       replace hx230_7 := (hbc HB.out hx230_7).trans hx230_7
       replace p230 := eq_true p230
       replace q230 := eq_true q230
       go_wp2
       go_ret
       exact ⟨by first | rfl | (simp [errW_none, errW_some] <;> rfl) | (simp [*, errW_none, errW_some] <;> rfl), by repeat (first | (with_reducible first | exact HB.out | apply z7q | apply z3q | apply z4q) | exact HB.out)⟩
     ·rw [if_neg c5] at H
      have c5b0 : (((rd_T107 l0 x5_1).f0) == x1_1) = false := beq_eq_false_iff_ne.mpr c5
      have c5b1 : (((rd_T107 l0 x5_1).f0) != x1_1) = true := bne_iff_ne.mpr c5
      obtain rfl := Option.some.inj H
      have p229 : 0 ≤ (x5_1 : Int) := of_decide_eq_true (by first | (with_reducible assumption) | assumption)
      have q229 : x5_1 < (l0.length : Int) := of_decide_eq_true (by first | (with_reducible assumption) | assumption)
      obtain ⟨ad229, e229, hx229_0, hx229_1, hx229_2, hx229_3, hx229_4, hx229_5, hx229_6, hx229_7⟩ := at_T107 HR0.out x5_1 p229 q229
      cases e229
      replace hx229_0 := (hbc HB.out hx229_0).trans hx229_0
      replace hx229_1 := (hbc HB.out hx229_1).trans hx229_1
      replace hx229_2 := (hbc HB.out hx229_2).trans hx229_2
      replace hx229_3 := (hbc HB.out hx229_3).trans hx229_3
      replace hx229_4 := (hbc HB.out hx229_4).trans hx229_4
      replace hx229_5 := (hbc HB.out hx229_5).trans hx229_5
      replace hx229_6 := (hbc HB.out hx229_6).trans hx229_6
      replace hx229_7 := (hbc HB.out hx229_7).trans hx229_7
      replace p229 := eq_true p229
      replace q229 := eq_true q229
      go_wp2
      go_ret
      exact ⟨by first | rfl | (simp [errW_none, errW_some] <;> rfl) | (simp [*, errW_none, errW_some] <;> rfl), by repeat (first | (with_reducible first | exact HB.out | apply z7q | apply z3q | apply z4q) | exact HB.out)⟩
    ·rw [if_neg c4] at H
     exact absurd H (by simp)
   ·rw [if_neg c3] at H
    have c3b0 : decide (x5_1 < (l0.length : Int)) = false := decide_eq_false c3
    clear c3
    obtain rfl := Option.some.inj H
    go_wp2
    go_ret
    exact ⟨by first | rfl | (simp [errW_none, errW_some] <;> rfl) | (simp [*, errW_none, errW_some] <;> rfl), by repeat (first | (with_reducible first | exact HB.out | apply z7q | apply z3q | apply z4q) | exact HB.out)⟩

end Go.Proofs.Ytojfkjggpdlngaa.PFnExactDiffer
