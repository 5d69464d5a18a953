/- Functions of the program as Lean functions, and proofs that the Go code comes to their answers: for the law FnExactGoodFormula; made out of the print by a program of mine (compact.py). No conditions but each theorem's own. -/
import Derived.Test.YtegdpgpbdcediaaGreatDoorMFnExactGoodFormulaa0
import Derived.Test.YtegdpgpbdcediaaGreatDoorMFnExactGoodFormulaa6
import Derived.Test.YtegdpgpbdcediaaGreatDoorMFnExactGoodFormulaa10
import Derived.Test.YtegdpgpbdcediaaGreatDoorMFnExactGoodFormulaa11
import Derived.Test.YtegdpgpbdcediaaGreatDoorMFnExactGoodFormulaa15
namespace Go.Proofs.YtegdpgpbdcediaaGreatDoor.PFnExactGoodFormula
open List (map_toArray map_cons map_nil length_drop length_take set_cons_zero set_cons_succ setIfInBounds_toArray)
open Go.RowKit Go.Proofs.YtegdpgpbdcediaaGreatDoorW.PrintWords Go.Proofs.YtegdpgpbdcediaaGreatDoorW.PrintLast Go.Proofs.YtegdpgpbdcediaaGreatDoorW.PrintMore
attribute [local go_sem] max2_int min2_int max_two min_two max_three min_three max_four min_four   -- for this text's walks alone
set_option linter.unusedVariables false
set_option linter.unusedSimpArgs false

attribute [local go_sem high] eqA47 eqA65
abbrev bt16_0 : Array Bool := #[false, false, false, false, false, false, false, false, false, false]
abbrev bt16_1 : Array Bool := #[true, false, false, false, false, false, false, false, false, false]
abbrev bt16_2 : Array Bool := #[true, true, false, false, false, false, false, false, false, false]
abbrev bt16_3 : Array Bool := #[true, true, true, false, false, false, false, false, false, false]
abbrev bt16_4 : Array Bool := #[true, true, true, false, true, false, false, false, false, false]
abbrev bt16_5 : Array Bool := #[true, true, true, false, true, true, false, false, false, false]
abbrev bt16_6 : Array Bool := #[true, true, true, false, true, true, true, false, false, false]
abbrev bt16_7 : Array Bool := #[true, true, true, true, true, true, true, false, false, false]
abbrev bt16_8 : Array Bool := #[true, true, true, true, true, true, true, true, false, false]
abbrev bt16_9 : Array Bool := #[true, true, true, true, true, true, true, true, true, false]
abbrev bt16_10 : Array Bool := #[true, true, true, true, true, true, true, true, true, true]
set_option maxHeartbeats 8000000 in
set_option maxRecDepth 100000 in
theorem laws_eqRef.calls (a0_0 : Int) (a0_1 : Int) (a0_2 : Bool) (a0_3 : Bool) (a1_0 : Int) (a1_1 : Int) (a1_2 : Bool) (a1_3 : Bool) (r : Bool) (w : World) (h : laws_eqRef.f a0_0 a0_1 a0_2 a0_3 a1_0 a1_1 a1_2 a1_3 = some r) :
  Calls Tryz.prog 76 #[.agg #[.int .i64 a0_0, .int .i64 a0_1, .bool a0_2, .bool a0_3], .agg #[.int .i64 a1_0, .int .i64 a1_1, .bool a1_2, .bool a1_3]] w fun e w' => e = .returned (.bool r) ∧ Below w.heap.size w w' := by
 have hu47 := Tryz.underlying47
 have HB := Aside0.mk (Below.refl w.heap.size w)
 have H : (if a0_0 = a1_0 then (if a0_1 = a1_1 then (if (a0_2 != a1_2) = true then (some false) else (if (a0_3 != a1_3) = true then (some false) else (some true))) else (some false)) else (some false)) = some r := h
 clear h
 by_cases c3 : a0_0 = a1_0
 ·rw [if_pos c3] at H
  have c3b0 : (a0_0 == a1_0) = true := beq_iff_eq.mpr c3
  have c3b1 : (a0_0 != a1_0) = false := bne_eq_false_iff_eq.mpr c3
  clear c3
  by_cases c4 : a0_1 = a1_1
  ·rw [if_pos c4] at H
   have c4b0 : (a0_1 == a1_1) = true := beq_iff_eq.mpr c4
   have c4b1 : (a0_1 != a1_1) = false := bne_eq_false_iff_eq.mpr c4
   clear c4
   by_cases c5 : (a0_2 != a1_2) = true
   ·rw [if_pos c5] at H
    have c5b0 : (a0_2 != a1_2) = true := c5
    (try (have c5b1 : decide (a0_2 = a1_2) = false := by simpa using c5))
    (try (have c5b2 : (a0_2 == a1_2) = false := by simpa using c5))
    (try (have c5b3 : ¬ (a0_2 = a1_2) := by simpa using c5))
    clear c5
    obtain rfl := Option.some.inj H
    go_enter Tryz.func76, Tryz.ntmps76
    go_wp2_with (first | ((with_reducible refine z17q (N := 2) rfl ?_); refine z16q ?hg (N := 2) ?hd (cs := #[.int .i64 a0_0, .int .i64 a0_1, .bool a0_2, .bool a0_3]) (t := 47) ?hr ?_; (case hd => rfl); (case hg => rfl); (case hr => first | (go_simp; done) | (go_simp; rfl)); intro gb462 hg w6 hbox hb; have n0_ := Aside0.mk (z6q (ibh HB.out) hb); have n1_ := Aside0.mk (hbox); have n2_ := Aside0.mk ((by rw [hg]; exact (z7q (ibh HB.out)) : w.heap.size ≤ gb462)); have n3_ := Aside0.mk ((by rw [hg]; exact (z7q (ibh HB.out)) : w.heap.size ≤ gb462)); clear HB; have HB := n0_; have BK462 := n1_; have GW462 := n2_; have GE462 := n3_; clear n0_ n1_ n2_ n3_; clear hb hbox hg) | ((with_reducible refine z17q (N := 3) rfl ?_); refine z16q ?hg (N := 3) ?hd (cs := #[.int .i64 a1_0, .int .i64 a1_1, .bool a1_2, .bool a1_3]) (t := 47) ?hr ?_; (case hd => rfl); (case hg => rfl); (case hr => first | (go_simp; done) | (go_simp; rfl)); intro gb463 hg w7 hbox hb; have n0_ := Aside0.mk (z15q (cy BK462.out) hb); have n1_ := Aside0.mk (z6q (ibh HB.out) hb); have n2_ := Aside0.mk (hbox); have n3_ := Aside0.mk ((by rw [hg]; exact (z7q (ibh HB.out)) : w.heap.size ≤ gb463)); have n4_ := Aside0.mk ((by rw [hg]; exact (z7q (ibh HB.out)) : w.heap.size ≤ gb463)); have n5_ := Aside0.mk ((by rw [hg]; exact Nat.ne_of_lt (z21q (cy BK462.out)) : gb462 ≠ gb463)); have n6_ := Aside0.mk ((by rw [hg]; exact Nat.ne_of_gt (z21q (cy BK462.out)) : gb463 ≠ gb462)); clear BK462; clear HB; have BK462 := n0_; have HB := n1_; have BK463 := n2_; have GW463 := n3_; have GE463 := n4_; have NB462_463 := n5_; have NB463_462 := n6_; clear n0_ n1_ n2_ n3_ n4_ n5_ n6_; clear hb hbox hg; have hnb8 := NB462_463.out; have hnc8 := NB463_462.out; obtain ⟨hcz9_0, hcz9_1, hcz9_2, hcz9_3, hfz9_0, hfz9_1, hfz9_2, hfz9_3⟩ := cr4 (w := w7) (g := gb462) BK462.out; obtain ⟨hcz10_0, hcz10_1, hcz10_2, hcz10_3, hfz10_0, hfz10_1, hfz10_2, hfz10_3⟩ := cr4 (w := w7) (g := gb463) BK463.out))
    go_ret
    exact ⟨by first | rfl | (simp [errW_none, errW_some] <;> rfl) | (simp [*, errW_none, errW_some] <;> rfl), by repeat (first | (with_reducible first | exact HB.out | apply z2q | apply z3q | apply z4q | refine z8q ?_ GE462.out | refine z8q ?_ GE463.out) | exact HB.out)⟩
   ·rw [if_neg c5] at H
    have c5b0 : (a0_2 != a1_2) = false := by simpa using c5
    (try (have c5b1 : decide (a0_2 = a1_2) = true := by simpa using c5))
    (try (have c5b2 : (a0_2 == a1_2) = true := by simpa using c5))
    clear c5
    by_cases c11 : (a0_3 != a1_3) = true
    ·rw [if_pos c11] at H
     have c11b0 : (a0_3 != a1_3) = true := c11
     (try (have c11b1 : decide (a0_3 = a1_3) = false := by simpa using c11))
     (try (have c11b2 : (a0_3 == a1_3) = false := by simpa using c11))
     (try (have c11b3 : ¬ (a0_3 = a1_3) := by simpa using c11))
     clear c11
     obtain rfl := Option.some.inj H
     go_enter Tryz.func76, Tryz.ntmps76
     go_wp2_with (first | ((with_reducible refine z17q (N := 2) rfl ?_); refine z16q ?hg (N := 2) ?hd (cs := #[.int .i64 a0_0, .int .i64 a0_1, .bool a0_2, .bool a0_3]) (t := 47) ?hr ?_; (case hd => rfl); (case hg => rfl); (case hr => first | (go_simp; done) | (go_simp; rfl)); intro gb462 hg w12 hbox hb; have n0_ := Aside0.mk (z6q (ibh HB.out) hb); have n1_ := Aside0.mk (hbox); have n2_ := Aside0.mk ((by rw [hg]; exact (z7q (ibh HB.out)) : w.heap.size ≤ gb462)); have n3_ := Aside0.mk ((by rw [hg]; exact (z7q (ibh HB.out)) : w.heap.size ≤ gb462)); clear HB; have HB := n0_; have BK462 := n1_; have GW462 := n2_; have GE462 := n3_; clear n0_ n1_ n2_ n3_; clear hb hbox hg) | ((with_reducible refine z17q (N := 3) rfl ?_); refine z16q ?hg (N := 3) ?hd (cs := #[.int .i64 a1_0, .int .i64 a1_1, .bool a1_2, .bool a1_3]) (t := 47) ?hr ?_; (case hd => rfl); (case hg => rfl); (case hr => first | (go_simp; done) | (go_simp; rfl)); intro gb463 hg w13 hbox hb; have n0_ := Aside0.mk (z15q (cy BK462.out) hb); have n1_ := Aside0.mk (z6q (ibh HB.out) hb); have n2_ := Aside0.mk (hbox); have n3_ := Aside0.mk ((by rw [hg]; exact (z7q (ibh HB.out)) : w.heap.size ≤ gb463)); have n4_ := Aside0.mk ((by rw [hg]; exact (z7q (ibh HB.out)) : w.heap.size ≤ gb463)); have n5_ := Aside0.mk ((by rw [hg]; exact Nat.ne_of_lt (z21q (cy BK462.out)) : gb462 ≠ gb463)); have n6_ := Aside0.mk ((by rw [hg]; exact Nat.ne_of_gt (z21q (cy BK462.out)) : gb463 ≠ gb462)); clear BK462; clear HB; have BK462 := n0_; have HB := n1_; have BK463 := n2_; have GW463 := n3_; have GE463 := n4_; have NB462_463 := n5_; have NB463_462 := n6_; clear n0_ n1_ n2_ n3_ n4_ n5_ n6_; clear hb hbox hg; have hnb14 := NB462_463.out; have hnc14 := NB463_462.out; obtain ⟨hcz15_0, hcz15_1, hcz15_2, hcz15_3, hfz15_0, hfz15_1, hfz15_2, hfz15_3⟩ := cr4 (w := w13) (g := gb462) BK462.out; obtain ⟨hcz16_0, hcz16_1, hcz16_2, hcz16_3, hfz16_0, hfz16_1, hfz16_2, hfz16_3⟩ := cr4 (w := w13) (g := gb463) BK463.out))
     go_ret
     exact ⟨by first | rfl | (simp [errW_none, errW_some] <;> rfl) | (simp [*, errW_none, errW_some] <;> rfl), by repeat (first | (with_reducible first | exact HB.out | apply z2q | apply z3q | apply z4q | refine z8q ?_ GE462.out | refine z8q ?_ GE463.out) | exact HB.out)⟩
    ·rw [if_neg c11] at H
     have c11b0 : (a0_3 != a1_3) = false := by simpa using c11
     (try (have c11b1 : decide (a0_3 = a1_3) = true := by simpa using c11))
     (try (have c11b2 : (a0_3 == a1_3) = true := by simpa using c11))
     clear c11
     obtain rfl := Option.some.inj H
     go_enter Tryz.func76, Tryz.ntmps76
     go_wp2_with (first | ((with_reducible refine z17q (N := 2) rfl ?_); refine z16q ?hg (N := 2) ?hd (cs := #[.int .i64 a0_0, .int .i64 a0_1, .bool a0_2, .bool a0_3]) (t := 47) ?hr ?_; (case hd => rfl); (case hg => rfl); (case hr => first | (go_simp; done) | (go_simp; rfl)); intro gb462 hg w17 hbox hb; have n0_ := Aside0.mk (z6q (ibh HB.out) hb); have n1_ := Aside0.mk (hbox); have n2_ := Aside0.mk ((by rw [hg]; exact (z7q (ibh HB.out)) : w.heap.size ≤ gb462)); have n3_ := Aside0.mk ((by rw [hg]; exact (z7q (ibh HB.out)) : w.heap.size ≤ gb462)); clear HB; have HB := n0_; have BK462 := n1_; have GW462 := n2_; have GE462 := n3_; clear n0_ n1_ n2_ n3_; clear hb hbox hg) | ((with_reducible refine z17q (N := 3) rfl ?_); refine z16q ?hg (N := 3) ?hd (cs := #[.int .i64 a1_0, .int .i64 a1_1, .bool a1_2, .bool a1_3]) (t := 47) ?hr ?_; (case hd => rfl); (case hg => rfl); (case hr => first | (go_simp; done) | (go_simp; rfl)); intro gb463 hg w18 hbox hb; have n0_ := Aside0.mk (z15q (cy BK462.out) hb); have n1_ := Aside0.mk (z6q (ibh HB.out) hb); have n2_ := Aside0.mk (hbox); have n3_ := Aside0.mk ((by rw [hg]; exact (z7q (ibh HB.out)) : w.heap.size ≤ gb463)); have n4_ := Aside0.mk ((by rw [hg]; exact (z7q (ibh HB.out)) : w.heap.size ≤ gb463)); have n5_ := Aside0.mk ((by rw [hg]; exact Nat.ne_of_lt (z21q (cy BK462.out)) : gb462 ≠ gb463)); have n6_ := Aside0.mk ((by rw [hg]; exact Nat.ne_of_gt (z21q (cy BK462.out)) : gb463 ≠ gb462)); clear BK462; clear HB; have BK462 := n0_; have HB := n1_; have BK463 := n2_; have GW463 := n3_; have GE463 := n4_; have NB462_463 := n5_; have NB463_462 := n6_; clear n0_ n1_ n2_ n3_ n4_ n5_ n6_; clear hb hbox hg; have hnb19 := NB462_463.out; have hnc19 := NB463_462.out; obtain ⟨hcz20_0, hcz20_1, hcz20_2, hcz20_3, hfz20_0, hfz20_1, hfz20_2, hfz20_3⟩ := cr4 (w := w18) (g := gb462) BK462.out; obtain ⟨hcz21_0, hcz21_1, hcz21_2, hcz21_3, hfz21_0, hfz21_1, hfz21_2, hfz21_3⟩ := cr4 (w := w18) (g := gb463) BK463.out))
     go_ret
     exact ⟨by first | rfl | (simp [errW_none, errW_some] <;> rfl) | (simp [*, errW_none, errW_some] <;> rfl), by repeat (first | (with_reducible first | exact HB.out | apply z2q | apply z3q | apply z4q | refine z8q ?_ GE462.out | refine z8q ?_ GE463.out) | exact HB.out)⟩
  ·rw [if_neg c4] at H
   have c4b0 : (a0_1 == a1_1) = false := beq_eq_false_iff_ne.mpr c4
   have c4b1 : (a0_1 != a1_1) = true := bne_iff_ne.mpr c4
   obtain rfl := Option.some.inj H
   go_enter Tryz.func76, Tryz.ntmps76
   go_wp2_with (first | ((with_reducible refine z17q (N := 2) rfl ?_); refine z16q ?hg (N := 2) ?hd (cs := #[.int .i64 a0_0, .int .i64 a0_1, .bool a0_2, .bool a0_3]) (t := 47) ?hr ?_; (case hd => rfl); (case hg => rfl); (case hr => first | (go_simp; done) | (go_simp; rfl)); intro gb462 hg w22 hbox hb; have n0_ := Aside0.mk (z6q (ibh HB.out) hb); have n1_ := Aside0.mk (hbox); have n2_ := Aside0.mk ((by rw [hg]; exact (z7q (ibh HB.out)) : w.heap.size ≤ gb462)); have n3_ := Aside0.mk ((by rw [hg]; exact (z7q (ibh HB.out)) : w.heap.size ≤ gb462)); clear HB; have HB := n0_; have BK462 := n1_; have GW462 := n2_; have GE462 := n3_; clear n0_ n1_ n2_ n3_; clear hb hbox hg) | ((with_reducible refine z17q (N := 3) rfl ?_); refine z16q ?hg (N := 3) ?hd (cs := #[.int .i64 a1_0, .int .i64 a1_1, .bool a1_2, .bool a1_3]) (t := 47) ?hr ?_; (case hd => rfl); (case hg => rfl); (case hr => first | (go_simp; done) | (go_simp; rfl)); intro gb463 hg w23 hbox hb; have n0_ := Aside0.mk (z15q (cy BK462.out) hb); have n1_ := Aside0.mk (z6q (ibh HB.out) hb); have n2_ := Aside0.mk (hbox); have n3_ := Aside0.mk ((by rw [hg]; exact (z7q (ibh HB.out)) : w.heap.size ≤ gb463)); have n4_ := Aside0.mk ((by rw [hg]; exact (z7q (ibh HB.out)) : w.heap.size ≤ gb463)); have n5_ := Aside0.mk ((by rw [hg]; exact Nat.ne_of_lt (z21q (cy BK462.out)) : gb462 ≠ gb463)); have n6_ := Aside0.mk ((by rw [hg]; exact Nat.ne_of_gt (z21q (cy BK462.out)) : gb463 ≠ gb462)); clear BK462; clear HB; have BK462 := n0_; have HB := n1_; have BK463 := n2_; have GW463 := n3_; have GE463 := n4_; have NB462_463 := n5_; have NB463_462 := n6_; clear n0_ n1_ n2_ n3_ n4_ n5_ n6_; clear hb hbox hg; have hnb24 := NB462_463.out; have hnc24 := NB463_462.out; obtain ⟨hcz25_0, hcz25_1, hcz25_2, hcz25_3, hfz25_0, hfz25_1, hfz25_2, hfz25_3⟩ := cr4 (w := w23) (g := gb462) BK462.out; obtain ⟨hcz26_0, hcz26_1, hcz26_2, hcz26_3, hfz26_0, hfz26_1, hfz26_2, hfz26_3⟩ := cr4 (w := w23) (g := gb463) BK463.out))
   go_ret
   exact ⟨by first | rfl | (simp [errW_none, errW_some] <;> rfl) | (simp [*, errW_none, errW_some] <;> rfl), by repeat (first | (with_reducible first | exact HB.out | apply z2q | apply z3q | apply z4q | refine z8q ?_ GE462.out | refine z8q ?_ GE463.out) | exact HB.out)⟩
 ·rw [if_neg c3] at H
  have c3b0 : (a0_0 == a1_0) = false := beq_eq_false_iff_ne.mpr c3
  have c3b1 : (a0_0 != a1_0) = true := bne_iff_ne.mpr c3
  obtain rfl := Option.some.inj H
  go_enter Tryz.func76, Tryz.ntmps76
  go_wp2_with (first | ((with_reducible refine z17q (N := 2) rfl ?_); refine z16q ?hg (N := 2) ?hd (cs := #[.int .i64 a0_0, .int .i64 a0_1, .bool a0_2, .bool a0_3]) (t := 47) ?hr ?_; (case hd => rfl); (case hg => rfl); (case hr => first | (go_simp; done) | (go_simp; rfl)); intro gb462 hg w27 hbox hb; have n0_ := Aside0.mk (z6q (ibh HB.out) hb); have n1_ := Aside0.mk (hbox); have n2_ := Aside0.mk ((by rw [hg]; exact (z7q (ibh HB.out)) : w.heap.size ≤ gb462)); have n3_ := Aside0.mk ((by rw [hg]; exact (z7q (ibh HB.out)) : w.heap.size ≤ gb462)); clear HB; have HB := n0_; have BK462 := n1_; have GW462 := n2_; have GE462 := n3_; clear n0_ n1_ n2_ n3_; clear hb hbox hg) | ((with_reducible refine z17q (N := 3) rfl ?_); refine z16q ?hg (N := 3) ?hd (cs := #[.int .i64 a1_0, .int .i64 a1_1, .bool a1_2, .bool a1_3]) (t := 47) ?hr ?_; (case hd => rfl); (case hg => rfl); (case hr => first | (go_simp; done) | (go_simp; rfl)); intro gb463 hg w28 hbox hb; have n0_ := Aside0.mk (z15q (cy BK462.out) hb); have n1_ := Aside0.mk (z6q (ibh HB.out) hb); have n2_ := Aside0.mk (hbox); have n3_ := Aside0.mk ((by rw [hg]; exact (z7q (ibh HB.out)) : w.heap.size ≤ gb463)); have n4_ := Aside0.mk ((by rw [hg]; exact (z7q (ibh HB.out)) : w.heap.size ≤ gb463)); have n5_ := Aside0.mk ((by rw [hg]; exact Nat.ne_of_lt (z21q (cy BK462.out)) : gb462 ≠ gb463)); have n6_ := Aside0.mk ((by rw [hg]; exact Nat.ne_of_gt (z21q (cy BK462.out)) : gb463 ≠ gb462)); clear BK462; clear HB; have BK462 := n0_; have HB := n1_; have BK463 := n2_; have GW463 := n3_; have GE463 := n4_; have NB462_463 := n5_; have NB463_462 := n6_; clear n0_ n1_ n2_ n3_ n4_ n5_ n6_; clear hb hbox hg; have hnb29 := NB462_463.out; have hnc29 := NB463_462.out; obtain ⟨hcz30_0, hcz30_1, hcz30_2, hcz30_3, hfz30_0, hfz30_1, hfz30_2, hfz30_3⟩ := cr4 (w := w28) (g := gb462) BK462.out; obtain ⟨hcz31_0, hcz31_1, hcz31_2, hcz31_3, hfz31_0, hfz31_1, hfz31_2, hfz31_3⟩ := cr4 (w := w28) (g := gb463) BK463.out))
  go_ret
  exact ⟨by first | rfl | (simp [errW_none, errW_some] <;> rfl) | (simp [*, errW_none, errW_some] <;> rfl), by repeat (first | (with_reducible first | exact HB.out | apply z2q | apply z3q | apply z4q | refine z8q ?_ GE462.out | refine z8q ?_ GE463.out) | exact HB.out)⟩



/-! ### laws_eqNode: function 38 -/

def laws_eqNode.f (a0_0 : Int) (a0_1 : ByteArray) (a0_2 : Bool) (a0_3 : Int) (a0_4 : Int) (a0_5 : Int) (a0_6 : Int) (a0_7 : Bool) (a0_8 : Bool) (a0_9 : Int) (a0_10 : Int) (a0_11 : Bool) (a0_12 : Bool) (a0_13 : Int) (a1_0 : Int) (a1_1 : ByteArray) (a1_2 : Bool) (a1_3 : Int) (a1_4 : Int) (a1_5 : Int) (a1_6 : Int) (a1_7 : Bool) (a1_8 : Bool) (a1_9 : Int) (a1_10 : Int) (a1_11 : Bool) (a1_12 : Bool) (a1_13 : Int) : Option (Bool) := if a0_0 = a1_0 then (if a0_1.toList = a1_1.toList then ((laws_eqDec.f a0_2 a0_3 a0_4 a1_2 a1_3 a1_4).bind fun t466 => (if t466 = true then ((laws_eqRef.f a0_5 a0_6 a0_7 a0_8 a1_5 a1_6 a1_7 a1_8).bind fun t467 => (if t467 = true then ((laws_eqRef.f a0_9 a0_10 a0_11 a0_12 a1_9 a1_10 a1_11 a1_12).bind fun t468 => (if t468 = true then (if a0_13 = a1_13 then (some true) else (some false)) else (some false))) else (some false))) else (some false))) else (some false)) else (some false)

set_option maxHeartbeats 8000000 in
set_option maxRecDepth 100000 in
theorem laws_eqNode.calls (a0_0 : Int) (a0_1 : ByteArray) (a0_2 : Bool) (a0_3 : Int) (a0_4 : Int) (a0_5 : Int) (a0_6 : Int) (a0_7 : Bool) (a0_8 : Bool) (a0_9 : Int) (a0_10 : Int) (a0_11 : Bool) (a0_12 : Bool) (a0_13 : Int) (a1_0 : Int) (a1_1 : ByteArray) (a1_2 : Bool) (a1_3 : Int) (a1_4 : Int) (a1_5 : Int) (a1_6 : Int) (a1_7 : Bool) (a1_8 : Bool) (a1_9 : Int) (a1_10 : Int) (a1_11 : Bool) (a1_12 : Bool) (a1_13 : Int) (r : Bool) (w : World) (h : laws_eqNode.f a0_0 a0_1 a0_2 a0_3 a0_4 a0_5 a0_6 a0_7 a0_8 a0_9 a0_10 a0_11 a0_12 a0_13 a1_0 a1_1 a1_2 a1_3 a1_4 a1_5 a1_6 a1_7 a1_8 a1_9 a1_10 a1_11 a1_12 a1_13 = some r) :
  Calls Tryz.prog 38 #[.agg #[.int .i64 a0_0, .string a0_1, .bool a0_2, .int .i64 a0_3, .int .i64 a0_4, .int .i64 a0_5, .int .i64 a0_6, .bool a0_7, .bool a0_8, .int .i64 a0_9, .int .i64 a0_10, .bool a0_11, .bool a0_12, .int .i64 a0_13], .agg #[.int .i64 a1_0, .string a1_1, .bool a1_2, .int .i64 a1_3, .int .i64 a1_4, .int .i64 a1_5, .int .i64 a1_6, .bool a1_7, .bool a1_8, .int .i64 a1_9, .int .i64 a1_10, .bool a1_11, .bool a1_12, .int .i64 a1_13]] w fun e w' => e = .returned (.bool r) ∧ Below w.heap.size w w' := by
 unfold laws_eqNode.f at h
 have HB := Lib.hid (z2q (z2q (Below.refl w.heap.size w) (.cells #[.int .i64 a0_0, .string a0_1, .bool a0_2, .int .i64 a0_3, .int .i64 a0_4, .int .i64 a0_5, .int .i64 a0_6, .bool a0_7, .bool a0_8, .int .i64 a0_9, .int .i64 a0_10, .bool a0_11, .bool a0_12, .int .i64 a0_13] 67)) (.cells #[.int .i64 a1_0, .string a1_1, .bool a1_2, .int .i64 a1_3, .int .i64 a1_4, .int .i64 a1_5, .int .i64 a1_6, .bool a1_7, .bool a1_8, .int .i64 a1_9, .int .i64 a1_10, .bool a1_11, .bool a1_12, .int .i64 a1_13] 67))
 by_cases c0 : a0_0 = a1_0
 ·rw [if_pos c0] at h
  have b0 : (a0_0 != a1_0) = false := bne_eq_false_iff_eq.mpr c0
  clear c0
  by_cases c1 : a0_1.toList = a1_1.toList
  ·rw [if_pos c1] at h
   have b1 : (a0_1.toList != a1_1.toList) = false := bne_eq_false_iff_eq.mpr c1; have b1e : (a0_1.toList == a1_1.toList) = true := beq_iff_eq.mpr c1
   clear c1
   obtain ⟨g1, hg1, h⟩ := Option.bind_eq_some_iff.mp h
   have G1 := Lib.hid hg1; clear hg1
   cases g1 with
   | false =>
    rw [if_neg (by decide)] at h
    obtain rfl := Option.some.inj h
    clear h
    go_enter Tryz.func38, Tryz.ntmps38
    go_wp2_with fail
    refine (laws_eqDec.calls _ _ _ _ _ _ _ _ G1.out).mono ?_; rintro e w2 ⟨rfl, hb⟩
    obtain ⟨hc2, hf2⟩ := bcell hb
    have HB2 := Lib.hid (z6q HB.out hb)
    have hsz2 : w.heap.size + 1 < w2.heap.size := by have h_ := hb.size; simp at h_; omega
    have hsy2 : w.heap.size < w2.heap.size := by omega
    clear hb
    go_wp2_with fail
    go_ret
    exact ⟨rfl, HB2.out⟩
   | true =>
    rw [if_pos rfl] at h
    obtain ⟨g2, hg2, h⟩ := Option.bind_eq_some_iff.mp h
    have G2 := Lib.hid hg2; clear hg2
    cases g2 with
    | false =>
     rw [if_neg (by decide)] at h
     obtain rfl := Option.some.inj h
     clear h
     go_enter Tryz.func38, Tryz.ntmps38
     go_wp2_with fail
     refine (laws_eqDec.calls _ _ _ _ _ _ _ _ G1.out).mono ?_; rintro e w2 ⟨rfl, hb⟩
     obtain ⟨hc2, hf2⟩ := bcell hb
     have HB2 := Lib.hid (z6q HB.out hb)
     have hsz2 : w.heap.size + 1 < w2.heap.size := by have h_ := hb.size; simp at h_; omega
     have hsy2 : w.heap.size < w2.heap.size := by omega
     clear hb
     go_wp2_with fail
     refine (laws_eqRef.calls _ _ _ _ _ _ _ _ _ _ G2.out).mono ?_; rintro e w3 ⟨rfl, hb⟩
     obtain ⟨hc3, hf3⟩ := bcell hb
     have HB3 := Lib.hid (z6q HB2.out hb)
     have hsz3 : w.heap.size + 1 < w3.heap.size := by have h_ := hb.size; omega
     have hsy3 : w.heap.size < w3.heap.size := by omega
     clear hb
     go_wp2_with fail
     go_ret
     exact ⟨rfl, HB3.out⟩
    | true =>
     rw [if_pos rfl] at h
     obtain ⟨g3, hg3, h⟩ := Option.bind_eq_some_iff.mp h
     have G3 := Lib.hid hg3; clear hg3
     cases g3 with
     | false =>
      rw [if_neg (by decide)] at h
      obtain rfl := Option.some.inj h
      clear h
      go_enter Tryz.func38, Tryz.ntmps38
      go_wp2_with fail
      refine (laws_eqDec.calls _ _ _ _ _ _ _ _ G1.out).mono ?_; rintro e w2 ⟨rfl, hb⟩
      obtain ⟨hc2, hf2⟩ := bcell hb
      have HB2 := Lib.hid (z6q HB.out hb)
      have hsz2 : w.heap.size + 1 < w2.heap.size := by have h_ := hb.size; simp at h_; omega
      have hsy2 : w.heap.size < w2.heap.size := by omega
      clear hb
      go_wp2_with fail
      refine (laws_eqRef.calls _ _ _ _ _ _ _ _ _ _ G2.out).mono ?_; rintro e w3 ⟨rfl, hb⟩
      obtain ⟨hc3, hf3⟩ := bcell hb
      have HB3 := Lib.hid (z6q HB2.out hb)
      have hsz3 : w.heap.size + 1 < w3.heap.size := by have h_ := hb.size; omega
      have hsy3 : w.heap.size < w3.heap.size := by omega
      clear hb
      go_wp2_with fail
      refine (laws_eqRef.calls _ _ _ _ _ _ _ _ _ _ G3.out).mono ?_; rintro e w4 ⟨rfl, hb⟩
      obtain ⟨hc4, hf4⟩ := bcell hb
      have HB4 := Lib.hid (z6q HB3.out hb)
      have hsz4 : w.heap.size + 1 < w4.heap.size := by have h_ := hb.size; omega
      have hsy4 : w.heap.size < w4.heap.size := by omega
      clear hb
      go_wp2_with fail
      go_ret
      exact ⟨rfl, HB4.out⟩
     | true =>
      rw [if_pos rfl] at h
      by_cases c2 : a0_13 = a1_13
      ·rw [if_pos c2] at h
       have b2 : (a0_13 != a1_13) = false := bne_eq_false_iff_eq.mpr c2
       obtain rfl := Option.some.inj h
       clear h c2
       go_enter Tryz.func38, Tryz.ntmps38
       go_wp2_with fail
       refine (laws_eqDec.calls _ _ _ _ _ _ _ _ G1.out).mono ?_; rintro e w2 ⟨rfl, hb⟩
       obtain ⟨hc2, hf2⟩ := bcell hb
       have HB2 := Lib.hid (z6q HB.out hb)
       have hsz2 : w.heap.size + 1 < w2.heap.size := by have h_ := hb.size; simp at h_; omega
       have hsy2 : w.heap.size < w2.heap.size := by omega
       clear hb
       go_wp2_with fail
       refine (laws_eqRef.calls _ _ _ _ _ _ _ _ _ _ G2.out).mono ?_; rintro e w3 ⟨rfl, hb⟩
       obtain ⟨hc3, hf3⟩ := bcell hb
       have HB3 := Lib.hid (z6q HB2.out hb)
       have hsz3 : w.heap.size + 1 < w3.heap.size := by have h_ := hb.size; omega
       have hsy3 : w.heap.size < w3.heap.size := by omega
       clear hb
       go_wp2_with fail
       refine (laws_eqRef.calls _ _ _ _ _ _ _ _ _ _ G3.out).mono ?_; rintro e w4 ⟨rfl, hb⟩
       obtain ⟨hc4, hf4⟩ := bcell hb
       have HB4 := Lib.hid (z6q HB3.out hb)
       have hsz4 : w.heap.size + 1 < w4.heap.size := by have h_ := hb.size; omega
       have hsy4 : w.heap.size < w4.heap.size := by omega
       clear hb
       go_wp2_with fail
       go_ret
       exact ⟨rfl, HB4.out⟩
      ·rw [if_neg c2] at h
       have b2 : (a0_13 != a1_13) = true := bne_iff_ne.mpr c2
       obtain rfl := Option.some.inj h
       clear h c2
       go_enter Tryz.func38, Tryz.ntmps38
       go_wp2_with fail
       refine (laws_eqDec.calls _ _ _ _ _ _ _ _ G1.out).mono ?_; rintro e w2 ⟨rfl, hb⟩
       obtain ⟨hc2, hf2⟩ := bcell hb
       have HB2 := Lib.hid (z6q HB.out hb)
       have hsz2 : w.heap.size + 1 < w2.heap.size := by have h_ := hb.size; simp at h_; omega
       have hsy2 : w.heap.size < w2.heap.size := by omega
       clear hb
       go_wp2_with fail
       refine (laws_eqRef.calls _ _ _ _ _ _ _ _ _ _ G2.out).mono ?_; rintro e w3 ⟨rfl, hb⟩
       obtain ⟨hc3, hf3⟩ := bcell hb
       have HB3 := Lib.hid (z6q HB2.out hb)
       have hsz3 : w.heap.size + 1 < w3.heap.size := by have h_ := hb.size; omega
       have hsy3 : w.heap.size < w3.heap.size := by omega
       clear hb
       go_wp2_with fail
       refine (laws_eqRef.calls _ _ _ _ _ _ _ _ _ _ G3.out).mono ?_; rintro e w4 ⟨rfl, hb⟩
       obtain ⟨hc4, hf4⟩ := bcell hb
       have HB4 := Lib.hid (z6q HB3.out hb)
       have hsz4 : w.heap.size + 1 < w4.heap.size := by have h_ := hb.size; omega
       have hsy4 : w.heap.size < w4.heap.size := by omega
       clear hb
       go_wp2_with fail
       go_ret
       exact ⟨rfl, HB4.out⟩
  ·rw [if_neg c1] at h
   have b1 : (a0_1.toList != a1_1.toList) = true := bne_iff_ne.mpr c1; have b1e : (a0_1.toList == a1_1.toList) = false := beq_eq_false_iff_ne.mpr c1
   obtain rfl := Option.some.inj h
   clear h c1
   go_enter Tryz.func38, Tryz.ntmps38
   go_wp2_with fail
   go_ret
   exact ⟨rfl, HB.out⟩
 ·rw [if_neg c0] at h
  have b0 : (a0_0 != a1_0) = true := bne_iff_ne.mpr c0
  obtain rfl := Option.some.inj h
  clear h c0
  go_enter Tryz.func38, Tryz.ntmps38
  go_wp2_with fail
  go_ret
  exact ⟨rfl, HB.out⟩

/-! ### laws_eqNodeS: function 13 -/

def laws_eqNodeS.l0 : Nat → List (S67) → List (S67) → Int → Option (Bool)
 | 0, _, _, _ => none
 | k + 1, x0, x1, x5 => if x5 < (x0.length : Int) then (if 0 ≤ x5 then (if x5 < (x1.length : Int) then ((laws_eqNode.f ((rd_T67 x0 x5).f0) ((rd_T67 x0 x5).f1) ((rd_T67 x0 x5).f2.f0) ((rd_T67 x0 x5).f2.f1) ((rd_T67 x0 x5).f2.f2) ((rd_T67 x0 x5).f3.f0) ((rd_T67 x0 x5).f3.f1) ((rd_T67 x0 x5).f3.f2) ((rd_T67 x0 x5).f3.f3) ((rd_T67 x0 x5).f4.f0) ((rd_T67 x0 x5).f4.f1) ((rd_T67 x0 x5).f4.f2) ((rd_T67 x0 x5).f4.f3) ((rd_T67 x0 x5).f5) ((rd_T67 x1 x5).f0) ((rd_T67 x1 x5).f1) ((rd_T67 x1 x5).f2.f0) ((rd_T67 x1 x5).f2.f1) ((rd_T67 x1 x5).f2.f2) ((rd_T67 x1 x5).f3.f0) ((rd_T67 x1 x5).f3.f1) ((rd_T67 x1 x5).f3.f2) ((rd_T67 x1 x5).f3.f3) ((rd_T67 x1 x5).f4.f0) ((rd_T67 x1 x5).f4.f1) ((rd_T67 x1 x5).f4.f2) ((rd_T67 x1 x5).f4.f3) ((rd_T67 x1 x5).f5)).bind fun t471 => (if t471 = true then (laws_eqNodeS.l0 k x0 x1 (wrap64 (x5 + 1))) else (some false))) else (none)) else (none)) else (some true)

def laws_eqNodeS.f (k : Nat) (l0 : List (S67)) (l1 : List (S67)) : Option (Bool) := if (l0.length : Int) = (l1.length : Int) then (laws_eqNodeS.l0 k l0 l1 0) else (some false)

def laws_eqNodeS.T6 : Bool × List (List Nat × List Nat) := (true, [([], []), ([], []), ([0, 1], [0, 1]), ([2], [2]), ([], []), ([], []), ([4, 5], [4, 5]), ([6], [6]), ([3, 7], [3, 7]), ([8], [8])])

def laws_eqNodeS.B6 : List Nat := [0, 0, 3, 7, 0, 0, 48, 112, 255, 511]

theorem laws_eqNodeS.tab6 : rtab .any (opsOf Tryz.f13 6) = laws_eqNodeS.T6 := by kernel_rfl

theorem laws_eqNodeS.bits6 : waitsOk laws_eqNodeS.T6.2 laws_eqNodeS.B6 = true := by kernel_rfl

set_option maxHeartbeats 8000000 in
set_option maxRecDepth 100000 in
theorem laws_eqNodeS.calls_p1 (k : Nat) (A0 : Option Addr) (c0 : Nat) (l0 : List (S67)) (A1 : Option Addr) (c1 : Nat) (l1 : List (S67)) (r : Bool) (w : World) (hr0 : Kd.C k67 w A0 l0.length l0) (hc0 : l0.length ≤ c0) (hr1 : Kd.C k67 w A1 l1.length l1) (hc1 : l1.length ≤ c1) (c3 : (l0.length : Int) = (l1.length : Int)) (H : (laws_eqNodeS.l0 k l0 l1 0) = some r) :
  Calls Tryz.prog 13 #[.slice A0 l0.length c0, .slice A1 l1.length c1] w fun e w' => e = .returned (.bool r) ∧ Below w.heap.size w w' := by
 have hu67 := Tryz.underlying67
 have HR0 := Aside0.mk hr0
 have HC0 := Aside0.mk hc0
 clear hr0 hc0
 have HR1 := Aside0.mk hr1
 have HC1 := Aside0.mk hc1
 clear hr1 hc1
 have HB := Aside0.mk (Below.refl w.heap.size w)
 have c3b0 : ((l0.length : Int) == (l1.length : Int)) = true := beq_iff_eq.mpr c3
 have c3b1 : ((l0.length : Int) != (l1.length : Int)) = false := bne_eq_false_iff_eq.mpr c3
 have c3b2 : (l0.length == l1.length) = true := by first | simpa using c3 | (simp at c3 ⊢; omega)
 clear c3
 have H' := Aside0.mk H
 clear H
 go_enter Tryz.func13, Tryz.ntmps13
 go_wp2
 go_loopg [5] k (fun kq v5 w' => ∃ (x5_1 : Int), v5 = .int .i64 x5_1 ∧ Aside0 (laws_eqNodeS.l0 kq l0 l1 x5_1 = some r) ∧ Aside0 (kq ≤ k) ∧ Aside0 (Below w.heap.size w w'))
 case atStart => exact ⟨(0), (by first | rfl | (simp; done) | (simp [*]; done) | (simp; unfold wrap64; omega)), H', ⟨Nat.le_refl _⟩, ⟨by repeat (first | (with_reducible first | exact HB.out | apply z2q | apply z3q | apply z4q) | exact HB.out)⟩⟩
 case round =>
  clear H'
  try clear c1
  try clear p2
  try clear c3
  try clear c3b0
  try clear c3b1
  try clear c3b2
  obtain ⟨x5_1, rfl, HA, HK1, HB⟩ := hrel
  cases gk with
  | zero => exact absurd HA.out (by simp [laws_eqNodeS.l0])
  | succ k1 =>
   have H := HA.out
   clear HA
   simp only [laws_eqNodeS.l0] at H
   by_cases c4 : x5_1 < (l0.length : Int)
   ·rw [if_pos c4] at H
    have c4b0 : decide (x5_1 < (l0.length : Int)) = true := decide_eq_true c4
    clear c4
    by_cases c5 : 0 ≤ x5_1
    ·rw [if_pos c5] at H
     have c5b0 : decide (0 ≤ x5_1) = true := decide_eq_true c5
     clear c5
     by_cases c6 : x5_1 < (l1.length : Int)
     ·rw [if_pos c6] at H
      have c6b0 : decide (x5_1 < (l1.length : Int)) = true := decide_eq_true c6
      clear c6
      replace H := Option.bind_eq_some_iff.mp H
      obtain ⟨t471, A70, H⟩ := H
      replace H : (if t471 = true then (laws_eqNodeS.l0 k1 l0 l1 (wrap64 (x5_1 + 1))) else (some false)) = some r := H
      have A7 := Aside0.mk A70
      clear A70
      by_cases c8 : t471 = true
      ·subst c8
       have H1 : (laws_eqNodeS.l0 k1 l0 l1 (wrap64 (x5_1 + 1))) = some r := by rw [if_pos rfl] at H; exact H
       clear H
       have H := H1
       clear H1
       have H' := Aside0.mk H
       clear H
       try go_wp2
       have n0_ := Aside0.mk (z4q HB.out)
       clear HB
       have HB := n0_
       clear n0_
       have p469 : 0 ≤ (x5_1 : Int) := of_decide_eq_true (by first | (with_reducible assumption) | assumption)
       have q469 : x5_1 < (l0.length : Int) := of_decide_eq_true (by first | (with_reducible assumption) | assumption)
       obtain ⟨ad469, e469, hx469_0, hx469_1, hx469_2, hx469_3, hx469_4, hx469_5, hx469_6, hx469_7, hx469_8, hx469_9, hx469_10, hx469_11, hx469_12, hx469_13⟩ := at_T67 HR0.out x5_1 p469 q469
       have hw469_13 := hx469_13
       have hw469_12 := hx469_12
       have hw469_11 := hx469_11
       have hw469_10 := hx469_10
       have hw469_9 := hx469_9
       have hw469_8 := hx469_8
       have hw469_7 := hx469_7
       have hw469_6 := hx469_6
       have hw469_5 := hx469_5
       have hw469_4 := hx469_4
       have hw469_3 := hx469_3
       have hw469_2 := hx469_2
       have hw469_1 := hx469_1
       have hw469_0 := hx469_0
       cases e469
       replace hx469_0 := (hbc HB.out hx469_0).trans hx469_0
       replace hx469_1 := (hbc HB.out hx469_1).trans hx469_1
       replace hx469_2 := (hbc HB.out hx469_2).trans hx469_2
       replace hx469_3 := (hbc HB.out hx469_3).trans hx469_3
       replace hx469_4 := (hbc HB.out hx469_4).trans hx469_4
       replace hx469_5 := (hbc HB.out hx469_5).trans hx469_5
       replace hx469_6 := (hbc HB.out hx469_6).trans hx469_6
       replace hx469_7 := (hbc HB.out hx469_7).trans hx469_7
       replace hx469_8 := (hbc HB.out hx469_8).trans hx469_8
       replace hx469_9 := (hbc HB.out hx469_9).trans hx469_9
       replace hx469_10 := (hbc HB.out hx469_10).trans hx469_10
       replace hx469_11 := (hbc HB.out hx469_11).trans hx469_11
       replace hx469_12 := (hbc HB.out hx469_12).trans hx469_12
       replace hx469_13 := (hbc HB.out hx469_13).trans hx469_13
       replace p469 := eq_true p469
       replace q469 := eq_true q469
       have p470 : 0 ≤ (x5_1 : Int) := of_decide_eq_true (by first | (with_reducible assumption) | assumption)
       have q470 : x5_1 < (l1.length : Int) := of_decide_eq_true (by first | (with_reducible assumption) | assumption)
       obtain ⟨ad470, e470, hx470_0, hx470_1, hx470_2, hx470_3, hx470_4, hx470_5, hx470_6, hx470_7, hx470_8, hx470_9, hx470_10, hx470_11, hx470_12, hx470_13⟩ := at_T67 HR1.out x5_1 p470 q470
       have hw470_13 := hx470_13
       have hw470_12 := hx470_12
       have hw470_11 := hx470_11
       have hw470_10 := hx470_10
       have hw470_9 := hx470_9
       have hw470_8 := hx470_8
       have hw470_7 := hx470_7
       have hw470_6 := hx470_6
       have hw470_5 := hx470_5
       have hw470_4 := hx470_4
       have hw470_3 := hx470_3
       have hw470_2 := hx470_2
       have hw470_1 := hx470_1
       have hw470_0 := hx470_0
       cases e470
       replace hx470_0 := (hbc HB.out hx470_0).trans hx470_0
       replace hx470_1 := (hbc HB.out hx470_1).trans hx470_1
       replace hx470_2 := (hbc HB.out hx470_2).trans hx470_2
       replace hx470_3 := (hbc HB.out hx470_3).trans hx470_3
       replace hx470_4 := (hbc HB.out hx470_4).trans hx470_4
       replace hx470_5 := (hbc HB.out hx470_5).trans hx470_5
       replace hx470_6 := (hbc HB.out hx470_6).trans hx470_6
       replace hx470_7 := (hbc HB.out hx470_7).trans hx470_7
       replace hx470_8 := (hbc HB.out hx470_8).trans hx470_8
       replace hx470_9 := (hbc HB.out hx470_9).trans hx470_9
       replace hx470_10 := (hbc HB.out hx470_10).trans hx470_10
       replace hx470_11 := (hbc HB.out hx470_11).trans hx470_11
       replace hx470_12 := (hbc HB.out hx470_12).trans hx470_12
       replace hx470_13 := (hbc HB.out hx470_13).trans hx470_13
       replace p470 := eq_true p470
       replace q470 := eq_true q470
       refine start_ (n := 10) (S := fun w' => w'.cell? (ad469.add ((x5_1).toNat * 14)) = some (.int .i64 ((rd_T67 l0 x5_1).f0)) ∧ w'.cell? ⟨(ad469.add ((x5_1).toNat * 14)).block, (ad469.add ((x5_1).toNat * 14)).off + 1, none⟩ = some (.string ((rd_T67 l0 x5_1).f1)) ∧ w'.cell? ⟨(ad469.add ((x5_1).toNat * 14)).block, (ad469.add ((x5_1).toNat * 14)).off + 2, none⟩ = some (.bool ((rd_T67 l0 x5_1).f2.f0)) ∧ w'.cell? ⟨(ad469.add ((x5_1).toNat * 14)).block, (ad469.add ((x5_1).toNat * 14)).off + 3, none⟩ = some (.int .i64 ((rd_T67 l0 x5_1).f2.f1)) ∧ w'.cell? ⟨(ad469.add ((x5_1).toNat * 14)).block, (ad469.add ((x5_1).toNat * 14)).off + 4, none⟩ = some (.int .i64 ((rd_T67 l0 x5_1).f2.f2)) ∧ w'.cell? ⟨(ad469.add ((x5_1).toNat * 14)).block, (ad469.add ((x5_1).toNat * 14)).off + 5, none⟩ = some (.int .i64 ((rd_T67 l0 x5_1).f3.f0)) ∧ w'.cell? ⟨(ad469.add ((x5_1).toNat * 14)).block, (ad469.add ((x5_1).toNat * 14)).off + 6, none⟩ = some (.int .i64 ((rd_T67 l0 x5_1).f3.f1)) ∧ w'.cell? ⟨(ad469.add ((x5_1).toNat * 14)).block, (ad469.add ((x5_1).toNat * 14)).off + 7, none⟩ = some (.bool ((rd_T67 l0 x5_1).f3.f2)) ∧ w'.cell? ⟨(ad469.add ((x5_1).toNat * 14)).block, (ad469.add ((x5_1).toNat * 14)).off + 8, none⟩ = some (.bool ((rd_T67 l0 x5_1).f3.f3)) ∧ w'.cell? ⟨(ad469.add ((x5_1).toNat * 14)).block, (ad469.add ((x5_1).toNat * 14)).off + 9, none⟩ = some (.int .i64 ((rd_T67 l0 x5_1).f4.f0)) ∧ w'.cell? ⟨(ad469.add ((x5_1).toNat * 14)).block, (ad469.add ((x5_1).toNat * 14)).off + 10, none⟩ = some (.int .i64 ((rd_T67 l0 x5_1).f4.f1)) ∧ w'.cell? ⟨(ad469.add ((x5_1).toNat * 14)).block, (ad469.add ((x5_1).toNat * 14)).off + 11, none⟩ = some (.bool ((rd_T67 l0 x5_1).f4.f2)) ∧ w'.cell? ⟨(ad469.add ((x5_1).toNat * 14)).block, (ad469.add ((x5_1).toNat * 14)).off + 12, none⟩ = some (.bool ((rd_T67 l0 x5_1).f4.f3)) ∧ w'.cell? ⟨(ad469.add ((x5_1).toNat * 14)).block, (ad469.add ((x5_1).toNat * 14)).off + 13, none⟩ = some (.int .i64 ((rd_T67 l0 x5_1).f5)) ∧ w'.cell? (ad470.add ((x5_1).toNat * 14)) = some (.int .i64 ((rd_T67 l1 x5_1).f0)) ∧ w'.cell? ⟨(ad470.add ((x5_1).toNat * 14)).block, (ad470.add ((x5_1).toNat * 14)).off + 1, none⟩ = some (.string ((rd_T67 l1 x5_1).f1)) ∧ w'.cell? ⟨(ad470.add ((x5_1).toNat * 14)).block, (ad470.add ((x5_1).toNat * 14)).off + 2, none⟩ = some (.bool ((rd_T67 l1 x5_1).f2.f0)) ∧ w'.cell? ⟨(ad470.add ((x5_1).toNat * 14)).block, (ad470.add ((x5_1).toNat * 14)).off + 3, none⟩ = some (.int .i64 ((rd_T67 l1 x5_1).f2.f1)) ∧ w'.cell? ⟨(ad470.add ((x5_1).toNat * 14)).block, (ad470.add ((x5_1).toNat * 14)).off + 4, none⟩ = some (.int .i64 ((rd_T67 l1 x5_1).f2.f2)) ∧ w'.cell? ⟨(ad470.add ((x5_1).toNat * 14)).block, (ad470.add ((x5_1).toNat * 14)).off + 5, none⟩ = some (.int .i64 ((rd_T67 l1 x5_1).f3.f0)) ∧ w'.cell? ⟨(ad470.add ((x5_1).toNat * 14)).block, (ad470.add ((x5_1).toNat * 14)).off + 6, none⟩ = some (.int .i64 ((rd_T67 l1 x5_1).f3.f1)) ∧ w'.cell? ⟨(ad470.add ((x5_1).toNat * 14)).block, (ad470.add ((x5_1).toNat * 14)).off + 7, none⟩ = some (.bool ((rd_T67 l1 x5_1).f3.f2)) ∧ w'.cell? ⟨(ad470.add ((x5_1).toNat * 14)).block, (ad470.add ((x5_1).toNat * 14)).off + 8, none⟩ = some (.bool ((rd_T67 l1 x5_1).f3.f3)) ∧ w'.cell? ⟨(ad470.add ((x5_1).toNat * 14)).block, (ad470.add ((x5_1).toNat * 14)).off + 9, none⟩ = some (.int .i64 ((rd_T67 l1 x5_1).f4.f0)) ∧ w'.cell? ⟨(ad470.add ((x5_1).toNat * 14)).block, (ad470.add ((x5_1).toNat * 14)).off + 10, none⟩ = some (.int .i64 ((rd_T67 l1 x5_1).f4.f1)) ∧ w'.cell? ⟨(ad470.add ((x5_1).toNat * 14)).block, (ad470.add ((x5_1).toNat * 14)).off + 11, none⟩ = some (.bool ((rd_T67 l1 x5_1).f4.f2)) ∧ w'.cell? ⟨(ad470.add ((x5_1).toNat * 14)).block, (ad470.add ((x5_1).toNat * 14)).off + 12, none⟩ = some (.bool ((rd_T67 l1 x5_1).f4.f3)) ∧ w'.cell? ⟨(ad470.add ((x5_1).toNat * 14)).block, (ad470.add ((x5_1).toNat * 14)).off + 13, none⟩ = some (.int .i64 ((rd_T67 l1 x5_1).f5))) (ds := []) bt16_0 (by kernel_rfl) rfl rfl ⟨(hbt HB.out hw469_0), (hbt HB.out hw469_1), (hbt HB.out hw469_2), (hbt HB.out hw469_3), (hbt HB.out hw469_4), (hbt HB.out hw469_5), (hbt HB.out hw469_6), (hbt HB.out hw469_7), (hbt HB.out hw469_8), (hbt HB.out hw469_9), (hbt HB.out hw469_10), (hbt HB.out hw469_11), (hbt HB.out hw469_12), (hbt HB.out hw469_13), (hbt HB.out hw470_0), (hbt HB.out hw470_1), (hbt HB.out hw470_2), (hbt HB.out hw470_3), (hbt HB.out hw470_4), (hbt HB.out hw470_5), (hbt HB.out hw470_6), (hbt HB.out hw470_7), (hbt HB.out hw470_8), (hbt HB.out hw470_9), (hbt HB.out hw470_10), (hbt HB.out hw470_11), (hbt HB.out hw470_12), (hbt HB.out hw470_13)⟩ (fun hHeld => ?_); refine with_tabW laws_eqNodeS.tab6 laws_eqNodeS.bits6 (fun HT_ HW_ => ?_)
       generalize wr.drew = w9 at HB hx469_0 hx469_1 hx469_10 hx469_11 hx469_12 hx469_13 hx469_2 hx469_3 hx469_4 hx469_5 hx469_6 hx469_7 hx469_8 hx469_9 hx470_0 hx470_1 hx470_10 hx470_11 hx470_12 hx470_13 hx470_2 hx470_3 hx470_4 hx470_5 hx470_6 hx470_7 hx470_8 hx470_9 hHeld ⊢
       refine pure_ (i := 0) (N := some 17) (v := ?_) (a' := ?_) bt16_1 rfl rfl (any_of HT_.out (by kernel_rfl)) (fun _ _ _ h => h) (Or.inl ⟨by rfl, ?_⟩) ?_ ?_
       rotate_left
       ·intro w'
        go_simp
        with_reducible rfl
       rotate_left
       ·simp only [Act.put, setIfInBounds_toArray, set_cons_zero, set_cons_succ, i64_w, i32_w]
        rfl
       refine pure_ (i := 1) (N := some 18) (v := ?_) (a' := ?_) bt16_2 rfl rfl (any_of HT_.out (by kernel_rfl)) (fun _ _ _ h => h) (Or.inl ⟨by rfl, ?_⟩) ?_ ?_
       rotate_left
       ·intro w'
        go_simp
        with_reducible rfl
       rotate_left
       ·simp only [Act.put, setIfInBounds_toArray, set_cons_zero, set_cons_succ, i64_w, i32_w]
        rfl
       refine pure_ (i := 2) (N := some 19) (v := ?_) (a' := ?_) bt16_3 rfl rfl (any_of HT_.out (by kernel_rfl)) (fun _ _ _ h => h) (Or.inl ⟨by rfl, ?_⟩) ?_ ?_
       rotate_left
       ·intro w'
        go_simp
        with_reducible rfl
       rotate_left
       ·simp only [Act.put, setIfInBounds_toArray, set_cons_zero, set_cons_succ, i64_w, i32_w]
        rfl
       refine pure_ (i := 4) (N := some 21) (v := ?_) (a' := ?_) bt16_4 rfl rfl (any_of HT_.out (by kernel_rfl)) (fun _ _ _ h => h) (Or.inl ⟨by rfl, ?_⟩) ?_ ?_
       rotate_left
       ·intro w'
        go_simp
        with_reducible rfl
       rotate_left
       ·simp only [Act.put, setIfInBounds_toArray, set_cons_zero, set_cons_succ, i64_w, i32_w]
        rfl
       refine pure_ (i := 5) (N := some 22) (v := ?_) (a' := ?_) bt16_5 rfl rfl (any_of HT_.out (by kernel_rfl)) (fun _ _ _ h => h) (Or.inl ⟨by rfl, ?_⟩) ?_ ?_
       rotate_left
       ·intro w'
        go_simp
        with_reducible rfl
       rotate_left
       ·simp only [Act.put, setIfInBounds_toArray, set_cons_zero, set_cons_succ, i64_w, i32_w]
        rfl
       refine pure_ (i := 6) (N := some 23) (v := ?_) (a' := ?_) bt16_6 rfl rfl (any_of HT_.out (by kernel_rfl)) (fun _ _ _ h => h) (Or.inl ⟨by rfl, ?_⟩) ?_ ?_
       rotate_left
       ·intro w'
        go_simp
        with_reducible rfl
       rotate_left
       ·simp only [Act.put, setIfInBounds_toArray, set_cons_zero, set_cons_succ, i64_w, i32_w]
        rfl
       refine take_ (i := 3) (N := some 20) (v := ?_) (a' := ?_) bt16_7 rfl rfl (take_ofW HT_.out HW_.out (by kernel_rfl)) (fun _ _ _ h => h) (Or.inl ⟨by rfl, ?_⟩) hHeld ?_ ?_
       rotate_left
       ·rintro w' ⟨s0, s1, s2, s3, s4, s5, s6, s7, s8, s9, s10, s11, s12, s13, s14, s15, s16, s17, s18, s19, s20, s21, s22, s23, s24, s25, s26, s27⟩
        go_simp
        with_reducible rfl
       rotate_left
       ·simp only [Act.put, setIfInBounds_toArray, set_cons_zero, set_cons_succ, i64_w, i32_w]
        rfl
       refine take_ (i := 7) (N := some 24) (v := ?_) (a' := ?_) bt16_8 rfl rfl (take_ofW HT_.out HW_.out (by kernel_rfl)) (fun _ _ _ h => h) (Or.inl ⟨by rfl, ?_⟩) hHeld ?_ ?_
       rotate_left
       ·rintro w' ⟨s0, s1, s2, s3, s4, s5, s6, s7, s8, s9, s10, s11, s12, s13, s14, s15, s16, s17, s18, s19, s20, s21, s22, s23, s24, s25, s26, s27⟩
        go_simp
        with_reducible rfl
       rotate_left
       ·simp only [Act.put, setIfInBounds_toArray, set_cons_zero, set_cons_succ, i64_w, i32_w]
        rfl
       refine one_ (i := 8) (N := some 25) bt16_9 rfl rfl (one_of HT_.out (by kernel_rfl)) (by decide) (fun K hK => ?_)
       refine goes_ Tryz.func38 (by kernel_rfl) rfl #[.agg #[.int .i64 ((rd_T67 l0 x5_1).f0), .string ((rd_T67 l0 x5_1).f1), .bool ((rd_T67 l0 x5_1).f2.f0), .int .i64 ((rd_T67 l0 x5_1).f2.f1), .int .i64 ((rd_T67 l0 x5_1).f2.f2), .int .i64 ((rd_T67 l0 x5_1).f3.f0), .int .i64 ((rd_T67 l0 x5_1).f3.f1), .bool ((rd_T67 l0 x5_1).f3.f2), .bool ((rd_T67 l0 x5_1).f3.f3), .int .i64 ((rd_T67 l0 x5_1).f4.f0), .int .i64 ((rd_T67 l0 x5_1).f4.f1), .bool ((rd_T67 l0 x5_1).f4.f2), .bool ((rd_T67 l0 x5_1).f4.f3), .int .i64 ((rd_T67 l0 x5_1).f5)], .agg #[.int .i64 ((rd_T67 l1 x5_1).f0), .string ((rd_T67 l1 x5_1).f1), .bool ((rd_T67 l1 x5_1).f2.f0), .int .i64 ((rd_T67 l1 x5_1).f2.f1), .int .i64 ((rd_T67 l1 x5_1).f2.f2), .int .i64 ((rd_T67 l1 x5_1).f3.f0), .int .i64 ((rd_T67 l1 x5_1).f3.f1), .bool ((rd_T67 l1 x5_1).f3.f2), .bool ((rd_T67 l1 x5_1).f3.f3), .int .i64 ((rd_T67 l1 x5_1).f4.f0), .int .i64 ((rd_T67 l1 x5_1).f4.f1), .bool ((rd_T67 l1 x5_1).f4.f2), .bool ((rd_T67 l1 x5_1).f4.f3), .int .i64 ((rd_T67 l1 x5_1).f5)]] (by rfl) rfl rfl (by (try simp only [map_toArray, map_cons, map_nil]); first | done | rfl | (simp only [length_drop, length_take]; rfl)) ?_
       with_reducible refine (laws_eqNode.calls ((rd_T67 l0 x5_1).f0) ((rd_T67 l0 x5_1).f1) ((rd_T67 l0 x5_1).f2.f0) ((rd_T67 l0 x5_1).f2.f1) ((rd_T67 l0 x5_1).f2.f2) ((rd_T67 l0 x5_1).f3.f0) ((rd_T67 l0 x5_1).f3.f1) ((rd_T67 l0 x5_1).f3.f2) ((rd_T67 l0 x5_1).f3.f3) ((rd_T67 l0 x5_1).f4.f0) ((rd_T67 l0 x5_1).f4.f1) ((rd_T67 l0 x5_1).f4.f2) ((rd_T67 l0 x5_1).f4.f3) ((rd_T67 l0 x5_1).f5) ((rd_T67 l1 x5_1).f0) ((rd_T67 l1 x5_1).f1) ((rd_T67 l1 x5_1).f2.f0) ((rd_T67 l1 x5_1).f2.f1) ((rd_T67 l1 x5_1).f2.f2) ((rd_T67 l1 x5_1).f3.f0) ((rd_T67 l1 x5_1).f3.f1) ((rd_T67 l1 x5_1).f3.f2) ((rd_T67 l1 x5_1).f3.f3) ((rd_T67 l1 x5_1).f4.f0) ((rd_T67 l1 x5_1).f4.f1) ((rd_T67 l1 x5_1).f4.f2) ((rd_T67 l1 x5_1).f4.f3) ((rd_T67 l1 x5_1).f5) true _ A7.out).mono ?_
       rintro e w10 ⟨rfl, hb⟩
       refine ⟨_, rfl, ?_⟩
       have n0_ := Aside0.mk (z6q (ibh HB.out) hb)
       clear HB
       have HB := n0_
       clear n0_
       (try clear hb)
       (try clear hb2)
       (try clear hk)
       (try clear hi)
       refine hK.out _ _ ⟨(hbt HB.out hw469_0), (hbt HB.out hw469_1), (hbt HB.out hw469_2), (hbt HB.out hw469_3), (hbt HB.out hw469_4), (hbt HB.out hw469_5), (hbt HB.out hw469_6), (hbt HB.out hw469_7), (hbt HB.out hw469_8), (hbt HB.out hw469_9), (hbt HB.out hw469_10), (hbt HB.out hw469_11), (hbt HB.out hw469_12), (hbt HB.out hw469_13), (hbt HB.out hw470_0), (hbt HB.out hw470_1), (hbt HB.out hw470_2), (hbt HB.out hw470_3), (hbt HB.out hw470_4), (hbt HB.out hw470_5), (hbt HB.out hw470_6), (hbt HB.out hw470_7), (hbt HB.out hw470_8), (hbt HB.out hw470_9), (hbt HB.out hw470_10), (hbt HB.out hw470_11), (hbt HB.out hw470_12), (hbt HB.out hw470_13)⟩ (fun hHeld => ?_)
       clear hK K
       refine norm_ (a' := ?_) ?_ ?_
       rotate_left
       ·show Act.put _ (some 25) _ = _
        simp only [Act.put, setIfInBounds_toArray, set_cons_zero, set_cons_succ, i64_w, i32_w]
        rfl
       refine pure_ (i := 9) (N := some 26) (v := ?_) (a' := ?_) bt16_10 rfl rfl (any_of HT_.out (by kernel_rfl)) (fun _ _ _ h => h) (Or.inl ⟨by rfl, ?_⟩) ?_ ?_
       rotate_left
       ·intro w'
        go_simp
        with_reducible rfl
       rotate_left
       ·simp only [Act.put, setIfInBounds_toArray, set_cons_zero, set_cons_succ, i64_w, i32_w]
        rfl
       refine done_ (done_of HT_.out (by kernel_rfl)) ?_
       try go_wp2
       go_roundg k1
       case measure => have := HK1.out; omega
       case rel => exact ⟨(wrap64 (x5_1 + 1)), (by first | rfl | (simp; done) | (simp [*]; done) | (simp; unfold wrap64; omega)), H', ⟨by have := HK1.out; omega⟩, ⟨by repeat (first | (with_reducible first | exact HB.out | apply z2q | apply z3q | apply z4q) | exact HB.out)⟩⟩
      ·replace c8 := Bool.eq_false_iff.mpr c8
       subst c8
       have H1 : (some false) = some r := by rw [if_neg (show ¬ (false = true) by decide)] at H; exact H
       clear H
       have H := H1
       clear H1
       obtain rfl := Option.some.inj H
       try go_wp2
       have n0_ := Aside0.mk (z4q HB.out)
       clear HB
       have HB := n0_
       clear n0_
       have p469 : 0 ≤ (x5_1 : Int) := of_decide_eq_true (by first | (with_reducible assumption) | assumption)
       have q469 : x5_1 < (l0.length : Int) := of_decide_eq_true (by first | (with_reducible assumption) | assumption)
       obtain ⟨ad469, e469, hx469_0, hx469_1, hx469_2, hx469_3, hx469_4, hx469_5, hx469_6, hx469_7, hx469_8, hx469_9, hx469_10, hx469_11, hx469_12, hx469_13⟩ := at_T67 HR0.out x5_1 p469 q469
       have hw469_13 := hx469_13
       have hw469_12 := hx469_12
       have hw469_11 := hx469_11
       have hw469_10 := hx469_10
       have hw469_9 := hx469_9
       have hw469_8 := hx469_8
       have hw469_7 := hx469_7
       have hw469_6 := hx469_6
       have hw469_5 := hx469_5
       have hw469_4 := hx469_4
       have hw469_3 := hx469_3
       have hw469_2 := hx469_2
       have hw469_1 := hx469_1
       have hw469_0 := hx469_0
       cases e469
       replace hx469_0 := (hbc HB.out hx469_0).trans hx469_0
       replace hx469_1 := (hbc HB.out hx469_1).trans hx469_1
       replace hx469_2 := (hbc HB.out hx469_2).trans hx469_2
       replace hx469_3 := (hbc HB.out hx469_3).trans hx469_3
       replace hx469_4 := (hbc HB.out hx469_4).trans hx469_4
       replace hx469_5 := (hbc HB.out hx469_5).trans hx469_5
       replace hx469_6 := (hbc HB.out hx469_6).trans hx469_6
       replace hx469_7 := (hbc HB.out hx469_7).trans hx469_7
       replace hx469_8 := (hbc HB.out hx469_8).trans hx469_8
       replace hx469_9 := (hbc HB.out hx469_9).trans hx469_9
       replace hx469_10 := (hbc HB.out hx469_10).trans hx469_10
       replace hx469_11 := (hbc HB.out hx469_11).trans hx469_11
       replace hx469_12 := (hbc HB.out hx469_12).trans hx469_12
       replace hx469_13 := (hbc HB.out hx469_13).trans hx469_13
       replace p469 := eq_true p469
       replace q469 := eq_true q469
       have p470 : 0 ≤ (x5_1 : Int) := of_decide_eq_true (by first | (with_reducible assumption) | assumption)
       have q470 : x5_1 < (l1.length : Int) := of_decide_eq_true (by first | (with_reducible assumption) | assumption)
       obtain ⟨ad470, e470, hx470_0, hx470_1, hx470_2, hx470_3, hx470_4, hx470_5, hx470_6, hx470_7, hx470_8, hx470_9, hx470_10, hx470_11, hx470_12, hx470_13⟩ := at_T67 HR1.out x5_1 p470 q470
       have hw470_13 := hx470_13
       have hw470_12 := hx470_12
       have hw470_11 := hx470_11
       have hw470_10 := hx470_10
       have hw470_9 := hx470_9
       have hw470_8 := hx470_8
       have hw470_7 := hx470_7
       have hw470_6 := hx470_6
       have hw470_5 := hx470_5
       have hw470_4 := hx470_4
       have hw470_3 := hx470_3
       have hw470_2 := hx470_2
       have hw470_1 := hx470_1
       have hw470_0 := hx470_0
       cases e470
       replace hx470_0 := (hbc HB.out hx470_0).trans hx470_0
       replace hx470_1 := (hbc HB.out hx470_1).trans hx470_1
       replace hx470_2 := (hbc HB.out hx470_2).trans hx470_2
       replace hx470_3 := (hbc HB.out hx470_3).trans hx470_3
       replace hx470_4 := (hbc HB.out hx470_4).trans hx470_4
       replace hx470_5 := (hbc HB.out hx470_5).trans hx470_5
       replace hx470_6 := (hbc HB.out hx470_6).trans hx470_6
       replace hx470_7 := (hbc HB.out hx470_7).trans hx470_7
       replace hx470_8 := (hbc HB.out hx470_8).trans hx470_8
       replace hx470_9 := (hbc HB.out hx470_9).trans hx470_9
       replace hx470_10 := (hbc HB.out hx470_10).trans hx470_10
       replace hx470_11 := (hbc HB.out hx470_11).trans hx470_11
       replace hx470_12 := (hbc HB.out hx470_12).trans hx470_12
       replace hx470_13 := (hbc HB.out hx470_13).trans hx470_13
       replace p470 := eq_true p470
       replace q470 := eq_true q470
       refine start_ (n := 10) (S := fun w' => w'.cell? (ad469.add ((x5_1).toNat * 14)) = some (.int .i64 ((rd_T67 l0 x5_1).f0)) ∧ w'.cell? ⟨(ad469.add ((x5_1).toNat * 14)).block, (ad469.add ((x5_1).toNat * 14)).off + 1, none⟩ = some (.string ((rd_T67 l0 x5_1).f1)) ∧ w'.cell? ⟨(ad469.add ((x5_1).toNat * 14)).block, (ad469.add ((x5_1).toNat * 14)).off + 2, none⟩ = some (.bool ((rd_T67 l0 x5_1).f2.f0)) ∧ w'.cell? ⟨(ad469.add ((x5_1).toNat * 14)).block, (ad469.add ((x5_1).toNat * 14)).off + 3, none⟩ = some (.int .i64 ((rd_T67 l0 x5_1).f2.f1)) ∧ w'.cell? ⟨(ad469.add ((x5_1).toNat * 14)).block, (ad469.add ((x5_1).toNat * 14)).off + 4, none⟩ = some (.int .i64 ((rd_T67 l0 x5_1).f2.f2)) ∧ w'.cell? ⟨(ad469.add ((x5_1).toNat * 14)).block, (ad469.add ((x5_1).toNat * 14)).off + 5, none⟩ = some (.int .i64 ((rd_T67 l0 x5_1).f3.f0)) ∧ w'.cell? ⟨(ad469.add ((x5_1).toNat * 14)).block, (ad469.add ((x5_1).toNat * 14)).off + 6, none⟩ = some (.int .i64 ((rd_T67 l0 x5_1).f3.f1)) ∧ w'.cell? ⟨(ad469.add ((x5_1).toNat * 14)).block, (ad469.add ((x5_1).toNat * 14)).off + 7, none⟩ = some (.bool ((rd_T67 l0 x5_1).f3.f2)) ∧ w'.cell? ⟨(ad469.add ((x5_1).toNat * 14)).block, (ad469.add ((x5_1).toNat * 14)).off + 8, none⟩ = some (.bool ((rd_T67 l0 x5_1).f3.f3)) ∧ w'.cell? ⟨(ad469.add ((x5_1).toNat * 14)).block, (ad469.add ((x5_1).toNat * 14)).off + 9, none⟩ = some (.int .i64 ((rd_T67 l0 x5_1).f4.f0)) ∧ w'.cell? ⟨(ad469.add ((x5_1).toNat * 14)).block, (ad469.add ((x5_1).toNat * 14)).off + 10, none⟩ = some (.int .i64 ((rd_T67 l0 x5_1).f4.f1)) ∧ w'.cell? ⟨(ad469.add ((x5_1).toNat * 14)).block, (ad469.add ((x5_1).toNat * 14)).off + 11, none⟩ = some (.bool ((rd_T67 l0 x5_1).f4.f2)) ∧ w'.cell? ⟨(ad469.add ((x5_1).toNat * 14)).block, (ad469.add ((x5_1).toNat * 14)).off + 12, none⟩ = some (.bool ((rd_T67 l0 x5_1).f4.f3)) ∧ w'.cell? ⟨(ad469.add ((x5_1).toNat * 14)).block, (ad469.add ((x5_1).toNat * 14)).off + 13, none⟩ = some (.int .i64 ((rd_T67 l0 x5_1).f5)) ∧ w'.cell? (ad470.add ((x5_1).toNat * 14)) = some (.int .i64 ((rd_T67 l1 x5_1).f0)) ∧ w'.cell? ⟨(ad470.add ((x5_1).toNat * 14)).block, (ad470.add ((x5_1).toNat * 14)).off + 1, none⟩ = some (.string ((rd_T67 l1 x5_1).f1)) ∧ w'.cell? ⟨(ad470.add ((x5_1).toNat * 14)).block, (ad470.add ((x5_1).toNat * 14)).off + 2, none⟩ = some (.bool ((rd_T67 l1 x5_1).f2.f0)) ∧ w'.cell? ⟨(ad470.add ((x5_1).toNat * 14)).block, (ad470.add ((x5_1).toNat * 14)).off + 3, none⟩ = some (.int .i64 ((rd_T67 l1 x5_1).f2.f1)) ∧ w'.cell? ⟨(ad470.add ((x5_1).toNat * 14)).block, (ad470.add ((x5_1).toNat * 14)).off + 4, none⟩ = some (.int .i64 ((rd_T67 l1 x5_1).f2.f2)) ∧ w'.cell? ⟨(ad470.add ((x5_1).toNat * 14)).block, (ad470.add ((x5_1).toNat * 14)).off + 5, none⟩ = some (.int .i64 ((rd_T67 l1 x5_1).f3.f0)) ∧ w'.cell? ⟨(ad470.add ((x5_1).toNat * 14)).block, (ad470.add ((x5_1).toNat * 14)).off + 6, none⟩ = some (.int .i64 ((rd_T67 l1 x5_1).f3.f1)) ∧ w'.cell? ⟨(ad470.add ((x5_1).toNat * 14)).block, (ad470.add ((x5_1).toNat * 14)).off + 7, none⟩ = some (.bool ((rd_T67 l1 x5_1).f3.f2)) ∧ w'.cell? ⟨(ad470.add ((x5_1).toNat * 14)).block, (ad470.add ((x5_1).toNat * 14)).off + 8, none⟩ = some (.bool ((rd_T67 l1 x5_1).f3.f3)) ∧ w'.cell? ⟨(ad470.add ((x5_1).toNat * 14)).block, (ad470.add ((x5_1).toNat * 14)).off + 9, none⟩ = some (.int .i64 ((rd_T67 l1 x5_1).f4.f0)) ∧ w'.cell? ⟨(ad470.add ((x5_1).toNat * 14)).block, (ad470.add ((x5_1).toNat * 14)).off + 10, none⟩ = some (.int .i64 ((rd_T67 l1 x5_1).f4.f1)) ∧ w'.cell? ⟨(ad470.add ((x5_1).toNat * 14)).block, (ad470.add ((x5_1).toNat * 14)).off + 11, none⟩ = some (.bool ((rd_T67 l1 x5_1).f4.f2)) ∧ w'.cell? ⟨(ad470.add ((x5_1).toNat * 14)).block, (ad470.add ((x5_1).toNat * 14)).off + 12, none⟩ = some (.bool ((rd_T67 l1 x5_1).f4.f3)) ∧ w'.cell? ⟨(ad470.add ((x5_1).toNat * 14)).block, (ad470.add ((x5_1).toNat * 14)).off + 13, none⟩ = some (.int .i64 ((rd_T67 l1 x5_1).f5))) (ds := []) bt16_0 (by kernel_rfl) rfl rfl ⟨(hbt HB.out hw469_0), (hbt HB.out hw469_1), (hbt HB.out hw469_2), (hbt HB.out hw469_3), (hbt HB.out hw469_4), (hbt HB.out hw469_5), (hbt HB.out hw469_6), (hbt HB.out hw469_7), (hbt HB.out hw469_8), (hbt HB.out hw469_9), (hbt HB.out hw469_10), (hbt HB.out hw469_11), (hbt HB.out hw469_12), (hbt HB.out hw469_13), (hbt HB.out hw470_0), (hbt HB.out hw470_1), (hbt HB.out hw470_2), (hbt HB.out hw470_3), (hbt HB.out hw470_4), (hbt HB.out hw470_5), (hbt HB.out hw470_6), (hbt HB.out hw470_7), (hbt HB.out hw470_8), (hbt HB.out hw470_9), (hbt HB.out hw470_10), (hbt HB.out hw470_11), (hbt HB.out hw470_12), (hbt HB.out hw470_13)⟩ (fun hHeld => ?_); refine with_tabW laws_eqNodeS.tab6 laws_eqNodeS.bits6 (fun HT_ HW_ => ?_)
       generalize wr.drew = w11 at HB hx469_0 hx469_1 hx469_10 hx469_11 hx469_12 hx469_13 hx469_2 hx469_3 hx469_4 hx469_5 hx469_6 hx469_7 hx469_8 hx469_9 hx470_0 hx470_1 hx470_10 hx470_11 hx470_12 hx470_13 hx470_2 hx470_3 hx470_4 hx470_5 hx470_6 hx470_7 hx470_8 hx470_9 hHeld ⊢
       refine pure_ (i := 0) (N := some 17) (v := ?_) (a' := ?_) bt16_1 rfl rfl (any_of HT_.out (by kernel_rfl)) (fun _ _ _ h => h) (Or.inl ⟨by rfl, ?_⟩) ?_ ?_
       rotate_left
       ·intro w'
        go_simp
        with_reducible rfl
       rotate_left
       ·simp only [Act.put, setIfInBounds_toArray, set_cons_zero, set_cons_succ, i64_w, i32_w]
        rfl
       refine pure_ (i := 1) (N := some 18) (v := ?_) (a' := ?_) bt16_2 rfl rfl (any_of HT_.out (by kernel_rfl)) (fun _ _ _ h => h) (Or.inl ⟨by rfl, ?_⟩) ?_ ?_
       rotate_left
       ·intro w'
        go_simp
        with_reducible rfl
       rotate_left
       ·simp only [Act.put, setIfInBounds_toArray, set_cons_zero, set_cons_succ, i64_w, i32_w]
        rfl
       refine pure_ (i := 2) (N := some 19) (v := ?_) (a' := ?_) bt16_3 rfl rfl (any_of HT_.out (by kernel_rfl)) (fun _ _ _ h => h) (Or.inl ⟨by rfl, ?_⟩) ?_ ?_
       rotate_left
       ·intro w'
        go_simp
        with_reducible rfl
       rotate_left
       ·simp only [Act.put, setIfInBounds_toArray, set_cons_zero, set_cons_succ, i64_w, i32_w]
        rfl
       refine pure_ (i := 4) (N := some 21) (v := ?_) (a' := ?_) bt16_4 rfl rfl (any_of HT_.out (by kernel_rfl)) (fun _ _ _ h => h) (Or.inl ⟨by rfl, ?_⟩) ?_ ?_
       rotate_left
       ·intro w'
        go_simp
        with_reducible rfl
       rotate_left
       ·simp only [Act.put, setIfInBounds_toArray, set_cons_zero, set_cons_succ, i64_w, i32_w]
        rfl
       refine pure_ (i := 5) (N := some 22) (v := ?_) (a' := ?_) bt16_5 rfl rfl (any_of HT_.out (by kernel_rfl)) (fun _ _ _ h => h) (Or.inl ⟨by rfl, ?_⟩) ?_ ?_
       rotate_left
       ·intro w'
        go_simp
        with_reducible rfl
       rotate_left
       ·simp only [Act.put, setIfInBounds_toArray, set_cons_zero, set_cons_succ, i64_w, i32_w]
        rfl
       refine pure_ (i := 6) (N := some 23) (v := ?_) (a' := ?_) bt16_6 rfl rfl (any_of HT_.out (by kernel_rfl)) (fun _ _ _ h => h) (Or.inl ⟨by rfl, ?_⟩) ?_ ?_
       rotate_left
       ·intro w'
        go_simp
        with_reducible rfl
       rotate_left
       ·simp only [Act.put, setIfInBounds_toArray, set_cons_zero, set_cons_succ, i64_w, i32_w]
        rfl
       refine take_ (i := 3) (N := some 20) (v := ?_) (a' := ?_) bt16_7 rfl rfl (take_ofW HT_.out HW_.out (by kernel_rfl)) (fun _ _ _ h => h) (Or.inl ⟨by rfl, ?_⟩) hHeld ?_ ?_
       rotate_left
       ·rintro w' ⟨s0, s1, s2, s3, s4, s5, s6, s7, s8, s9, s10, s11, s12, s13, s14, s15, s16, s17, s18, s19, s20, s21, s22, s23, s24, s25, s26, s27⟩
        go_simp
        with_reducible rfl
       rotate_left
       ·simp only [Act.put, setIfInBounds_toArray, set_cons_zero, set_cons_succ, i64_w, i32_w]
        rfl
       refine take_ (i := 7) (N := some 24) (v := ?_) (a' := ?_) bt16_8 rfl rfl (take_ofW HT_.out HW_.out (by kernel_rfl)) (fun _ _ _ h => h) (Or.inl ⟨by rfl, ?_⟩) hHeld ?_ ?_
       rotate_left
       ·rintro w' ⟨s0, s1, s2, s3, s4, s5, s6, s7, s8, s9, s10, s11, s12, s13, s14, s15, s16, s17, s18, s19, s20, s21, s22, s23, s24, s25, s26, s27⟩
        go_simp
        with_reducible rfl
       rotate_left
       ·simp only [Act.put, setIfInBounds_toArray, set_cons_zero, set_cons_succ, i64_w, i32_w]
        rfl
       refine one_ (i := 8) (N := some 25) bt16_9 rfl rfl (one_of HT_.out (by kernel_rfl)) (by decide) (fun K hK => ?_)
       refine goes_ Tryz.func38 (by kernel_rfl) rfl #[.agg #[.int .i64 ((rd_T67 l0 x5_1).f0), .string ((rd_T67 l0 x5_1).f1), .bool ((rd_T67 l0 x5_1).f2.f0), .int .i64 ((rd_T67 l0 x5_1).f2.f1), .int .i64 ((rd_T67 l0 x5_1).f2.f2), .int .i64 ((rd_T67 l0 x5_1).f3.f0), .int .i64 ((rd_T67 l0 x5_1).f3.f1), .bool ((rd_T67 l0 x5_1).f3.f2), .bool ((rd_T67 l0 x5_1).f3.f3), .int .i64 ((rd_T67 l0 x5_1).f4.f0), .int .i64 ((rd_T67 l0 x5_1).f4.f1), .bool ((rd_T67 l0 x5_1).f4.f2), .bool ((rd_T67 l0 x5_1).f4.f3), .int .i64 ((rd_T67 l0 x5_1).f5)], .agg #[.int .i64 ((rd_T67 l1 x5_1).f0), .string ((rd_T67 l1 x5_1).f1), .bool ((rd_T67 l1 x5_1).f2.f0), .int .i64 ((rd_T67 l1 x5_1).f2.f1), .int .i64 ((rd_T67 l1 x5_1).f2.f2), .int .i64 ((rd_T67 l1 x5_1).f3.f0), .int .i64 ((rd_T67 l1 x5_1).f3.f1), .bool ((rd_T67 l1 x5_1).f3.f2), .bool ((rd_T67 l1 x5_1).f3.f3), .int .i64 ((rd_T67 l1 x5_1).f4.f0), .int .i64 ((rd_T67 l1 x5_1).f4.f1), .bool ((rd_T67 l1 x5_1).f4.f2), .bool ((rd_T67 l1 x5_1).f4.f3), .int .i64 ((rd_T67 l1 x5_1).f5)]] (by rfl) rfl rfl (by (try simp only [map_toArray, map_cons, map_nil]); first | done | rfl | (simp only [length_drop, length_take]; rfl)) ?_
       with_reducible refine (laws_eqNode.calls ((rd_T67 l0 x5_1).f0) ((rd_T67 l0 x5_1).f1) ((rd_T67 l0 x5_1).f2.f0) ((rd_T67 l0 x5_1).f2.f1) ((rd_T67 l0 x5_1).f2.f2) ((rd_T67 l0 x5_1).f3.f0) ((rd_T67 l0 x5_1).f3.f1) ((rd_T67 l0 x5_1).f3.f2) ((rd_T67 l0 x5_1).f3.f3) ((rd_T67 l0 x5_1).f4.f0) ((rd_T67 l0 x5_1).f4.f1) ((rd_T67 l0 x5_1).f4.f2) ((rd_T67 l0 x5_1).f4.f3) ((rd_T67 l0 x5_1).f5) ((rd_T67 l1 x5_1).f0) ((rd_T67 l1 x5_1).f1) ((rd_T67 l1 x5_1).f2.f0) ((rd_T67 l1 x5_1).f2.f1) ((rd_T67 l1 x5_1).f2.f2) ((rd_T67 l1 x5_1).f3.f0) ((rd_T67 l1 x5_1).f3.f1) ((rd_T67 l1 x5_1).f3.f2) ((rd_T67 l1 x5_1).f3.f3) ((rd_T67 l1 x5_1).f4.f0) ((rd_T67 l1 x5_1).f4.f1) ((rd_T67 l1 x5_1).f4.f2) ((rd_T67 l1 x5_1).f4.f3) ((rd_T67 l1 x5_1).f5) false _ A7.out).mono ?_
       rintro e w12 ⟨rfl, hb⟩
       refine ⟨_, rfl, ?_⟩
       have n0_ := Aside0.mk (z6q (ibh HB.out) hb)
       clear HB
       have HB := n0_
       clear n0_
       (try clear hb)
       (try clear hb2)
       (try clear hk)
       (try clear hi)
       refine hK.out _ _ ⟨(hbt HB.out hw469_0), (hbt HB.out hw469_1), (hbt HB.out hw469_2), (hbt HB.out hw469_3), (hbt HB.out hw469_4), (hbt HB.out hw469_5), (hbt HB.out hw469_6), (hbt HB.out hw469_7), (hbt HB.out hw469_8), (hbt HB.out hw469_9), (hbt HB.out hw469_10), (hbt HB.out hw469_11), (hbt HB.out hw469_12), (hbt HB.out hw469_13), (hbt HB.out hw470_0), (hbt HB.out hw470_1), (hbt HB.out hw470_2), (hbt HB.out hw470_3), (hbt HB.out hw470_4), (hbt HB.out hw470_5), (hbt HB.out hw470_6), (hbt HB.out hw470_7), (hbt HB.out hw470_8), (hbt HB.out hw470_9), (hbt HB.out hw470_10), (hbt HB.out hw470_11), (hbt HB.out hw470_12), (hbt HB.out hw470_13)⟩ (fun hHeld => ?_)
       clear hK K
       refine norm_ (a' := ?_) ?_ ?_
       rotate_left
       ·show Act.put _ (some 25) _ = _
        simp only [Act.put, setIfInBounds_toArray, set_cons_zero, set_cons_succ, i64_w, i32_w]
        rfl
       refine pure_ (i := 9) (N := some 26) (v := ?_) (a' := ?_) bt16_10 rfl rfl (any_of HT_.out (by kernel_rfl)) (fun _ _ _ h => h) (Or.inl ⟨by rfl, ?_⟩) ?_ ?_
       rotate_left
       ·intro w'
        go_simp
        with_reducible rfl
       rotate_left
       ·simp only [Act.put, setIfInBounds_toArray, set_cons_zero, set_cons_succ, i64_w, i32_w]
        rfl
       refine done_ (done_of HT_.out (by kernel_rfl)) ?_
       try go_wp2
       go_ret
       exact ⟨by first | rfl | (simp [errW_none, errW_some] <;> rfl) | (simp [*, errW_none, errW_some] <;> rfl), by repeat (first | (with_reducible first | exact HB.out | apply z2q | apply z3q | apply z4q) | exact HB.out)⟩
     ·rw [if_neg c6] at H
      exact absurd H (by simp)
    ·rw [if_neg c5] at H
     exact absurd H (by simp)
   ·rw [if_neg c4] at H
    have c4b0 : decide (x5_1 < (l0.length : Int)) = false := decide_eq_false c4
    clear c4
    obtain rfl := Option.some.inj H
    go_wp2
    go_ret
    exact ⟨by first | rfl | (simp [errW_none, errW_some] <;> rfl) | (simp [*, errW_none, errW_some] <;> rfl), by repeat (first | (with_reducible first | exact HB.out | apply z2q | apply z3q | apply z4q) | exact HB.out)⟩

set_option maxHeartbeats 8000000 in
set_option maxRecDepth 100000 in
theorem laws_eqNodeS.calls_p2 (k : Nat) (A0 : Option Addr) (c0 : Nat) (l0 : List (S67)) (A1 : Option Addr) (c1 : Nat) (l1 : List (S67)) (r : Bool) (w : World) (hr0 : Kd.C k67 w A0 l0.length l0) (hc0 : l0.length ≤ c0) (hr1 : Kd.C k67 w A1 l1.length l1) (hc1 : l1.length ≤ c1) (c3 : ¬ ((l0.length : Int) = (l1.length : Int))) (H : (some false) = some r) :
  Calls Tryz.prog 13 #[.slice A0 l0.length c0, .slice A1 l1.length c1] w fun e w' => e = .returned (.bool r) ∧ Below w.heap.size w w' := by
 have hu67 := Tryz.underlying67
 have HR0 := Aside0.mk hr0
 have HC0 := Aside0.mk hc0
 clear hr0 hc0
 have HR1 := Aside0.mk hr1
 have HC1 := Aside0.mk hc1
 clear hr1 hc1
 have HB := Aside0.mk (Below.refl w.heap.size w)
 have c3b0 : ((l0.length : Int) == (l1.length : Int)) = false := beq_eq_false_iff_ne.mpr c3
 have c3b1 : ((l0.length : Int) != (l1.length : Int)) = true := bne_iff_ne.mpr c3
 have c3b2 : (l0.length == l1.length) = false := by first | simpa using c3 | (simp at c3 ⊢; omega)
 obtain rfl := Option.some.inj H
 go_enter Tryz.func13, Tryz.ntmps13
 go_wp2
 go_ret
 exact ⟨by first | rfl | (simp [errW_none, errW_some] <;> rfl) | (simp [*, errW_none, errW_some] <;> rfl), by repeat (first | (with_reducible first | exact HB.out | apply z2q | apply z3q | apply z4q) | exact HB.out)⟩

set_option maxHeartbeats 8000000 in
set_option maxRecDepth 100000 in
theorem laws_eqNodeS.calls (k : Nat) (A0 : Option Addr) (c0 : Nat) (l0 : List (S67)) (A1 : Option Addr) (c1 : Nat) (l1 : List (S67)) (r : Bool) (w : World) (hr0 : Kd.C k67 w A0 l0.length l0) (hc0 : l0.length ≤ c0) (hr1 : Kd.C k67 w A1 l1.length l1) (hc1 : l1.length ≤ c1) (h : laws_eqNodeS.f k l0 l1 = some r) :
  Calls Tryz.prog 13 #[.slice A0 l0.length c0, .slice A1 l1.length c1] w fun e w' => e = .returned (.bool r) ∧ Below w.heap.size w w' := by
 have H : (if (l0.length : Int) = (l1.length : Int) then (laws_eqNodeS.l0 k l0 l1 0) else (some false)) = some r := h
 by_cases c3 : (l0.length : Int) = (l1.length : Int)
 ·rw [if_pos c3] at H
  exact laws_eqNodeS.calls_p1 k A0 c0 l0 A1 c1 l1 r w hr0 hc0 hr1 hc1 c3 H
 ·rw [if_neg c3] at H
  exact laws_eqNodeS.calls_p2 k A0 c0 l0 A1 c1 l1 r w hr0 hc0 hr1 hc1 c3 H

/-! ### laws_FnExactGoodFormula: function 3 -/

def laws_FnExactGoodFormula.f (k : Nat) (l0 : List (S64)) : Option (Bool) := (laws_szNodeS.f k l0 1048576).bind fun t472 => (if t472 < 0 then (some true) else ((laws_toNodeS.f k l0).bind fun t473 => ((spec_GoodFormula.f k t473).bind fun t476 => ((laws_toNodeS.f k l0).bind fun t477 => ((impl_GoodFormula.f k t477).bind fun t480 => (if (t480 != t476) = true then (some false) else ((laws_toNodeS.f k l0).bind fun t481 => ((laws_eqNodeS.f k t477 t481).bind fun t484 => (if t484 = true then (some true) else (some false))))))))))

set_option maxHeartbeats 8000000 in
set_option maxRecDepth 100000 in
theorem laws_FnExactGoodFormula.calls_p1 (k : Nat) (A0 : Option Addr) (c0 : Nat) (l0 : List (S64)) (r : Bool) (w : World) (hr0 : Kd.C k64 w A0 l0.length l0) (hc0 : l0.length ≤ c0) (hT : Tab w) (t472 : _) (A2 : Aside0 ((laws_szNodeS.f k l0 1048576) = some t472)) (c3 : t472 < 0) (H : (some true) = some r) :
  Calls Tryz.prog 3 #[.slice A0 l0.length c0] w fun e w' => e = .returned (.bool r) ∧ Below w.heap.size w w' := by
 have HR0 := Aside0.mk hr0
 have HC0 := Aside0.mk hc0
 clear hr0 hc0
 have HB := Aside0.mk (Below.refl w.heap.size w)
 have c3b0 : decide (t472 < 0) = true := decide_eq_true c3
 clear c3
 obtain rfl := Option.some.inj H
 go_enter Tryz.func3, Tryz.ntmps3
 go_wp2_with (first | ((with_reducible refine z14q (f := 9) rfl ?_); refine z20q (some 9) rfl rfl Tryz.func9 (by kernel_rfl) rfl #[.slice A0 l0.length c0, .int .i64 1048576] rfl (by (try simp only [map_toArray, map_cons, map_nil]); first | done | rfl | (simp only [length_drop, length_take]; rfl)) ?_; (with_reducible refine (laws_szNodeS.calls k _ _ l0 1048576 t472 _ ?side1 ?side2 A2.out).mono ?_); (case side1 => repeat (first | exact HR0.out | (with_reducible refine Kd.C_alloc ?_ _) | (with_reducible refine Kd.C_drewN ?_ _) | (with_reducible refine Kd.C_drew ?_))); (case side2 => exact HC0.out); rintro e w4 ⟨rfl, hb⟩; refine ⟨_, rfl, ?_⟩; have n0_ := Aside0.mk (z6q (ibh HB.out) hb); clear HB; have HB := n0_; clear n0_; (try clear hb); (try clear hb2); (try clear hk); (try clear hi)))
 go_ret
 exact ⟨by first | rfl | (simp [errW_none, errW_some] <;> rfl) | (simp [*, errW_none, errW_some] <;> rfl), by repeat (first | (with_reducible first | exact HB.out | apply z2q | apply z3q | apply z4q) | exact HB.out)⟩

end Go.Proofs.YtegdpgpbdcediaaGreatDoor.PFnExactGoodFormula
