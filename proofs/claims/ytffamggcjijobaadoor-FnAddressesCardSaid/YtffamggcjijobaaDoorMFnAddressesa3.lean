/- Functions of the program as Lean functions, and proofs that the Go code comes to their answers: for the law FnAddresses; made out of the print by a program of mine (compact.py). No conditions but each theorem's own. -/
import Derived.Test.YtffamggcjijobaaDoorMFnAddressesa0
import Derived.Test.YtffamggcjijobaaDoorMFnAddressesa2
namespace Go.Proofs.YtffamggcjijobaaDoor.PFnAddresses
open Go.RowKit Go.Proofs.YtffamggcjijobaaDoorW.PrintWords Go.Proofs.YtffamggcjijobaaDoorW.PrintLast Go.Proofs.YtffamggcjijobaaDoorW.PrintMore
attribute [local go_sem] max2_int min2_int max_two min_two max_three min_three max_four min_four   -- for this text's walks alone
set_option linter.unusedVariables false
set_option linter.unusedSimpArgs false

attribute [local go_sem high] eqA50
abbrev bt3_0 : Array Bool := #[false, false, false, false, false, false, false, false, false, false, false, false, false, false]
abbrev bt3_1 : Array Bool := #[true, false, false, false, false, false, false, false, false, false, false, false, false, false]
abbrev bt3_2 : Array Bool := #[true, false, true, false, false, false, false, false, false, false, false, false, false, false]
abbrev bt3_3 : Array Bool := #[true, false, true, false, true, false, false, false, false, false, false, false, false, false]
abbrev bt3_4 : Array Bool := #[true, false, true, false, true, false, true, false, false, false, false, false, false, false]
abbrev bt3_5 : Array Bool := #[true, false, true, false, true, false, true, false, true, false, false, false, false, false]
abbrev bt3_6 : Array Bool := #[true, false, true, false, true, false, true, false, true, false, true, false, false, false]
abbrev bt3_7 : Array Bool := #[true, true, true, false, true, false, true, false, true, false, true, false, false, false]
abbrev bt3_8 : Array Bool := #[true, true, true, true, true, false, true, false, true, false, true, false, false, false]
abbrev bt3_9 : Array Bool := #[true, true, true, true, true, false, true, true, true, false, true, false, false, false]
abbrev bt3_10 : Array Bool := #[true, true, true, true, true, false, true, true, true, true, true, false, false, false]
abbrev bt3_11 : Array Bool := #[true, true, true, true, true, true, true, true, true, true, true, false, false, false]
abbrev bt3_12 : Array Bool := #[true, true, true, true, true, true, true, true, true, true, true, true, false, false]
abbrev bt3_13 : Array Bool := #[true, true, true, true, true, true, true, true, true, true, true, true, true, false]
abbrev bt3_14 : Array Bool := #[true, true, true, true, true, true, true, true, true, true, true, true, true, true]
set_option maxHeartbeats 8000000 in
set_option maxRecDepth 100000 in
theorem impl_RefText.calls (k : Nat) (a0_0 : Int) (a0_1 : Int) (a0_2 : Bool) (a0_3 : Bool) (r : ByteArray) (w : World) (hT : Tab w) (h : impl_RefText.f k a0_0 a0_1 a0_2 a0_3 = some r) :
    Calls Tryd.prog 31 #[.agg #[.int .i64 a0_0, .int .i64 a0_1, .bool a0_2, .bool a0_3]] w fun e w' => e = .returned (.string r) ∧ Below w.heap.size w w' := by
  have hu50 := Tryd.underlying50
  have HB := Aside0.mk (Below.refl w.heap.size w)
  have H : ((impl_GoodRef.f a0_0 a0_1 a0_2 a0_3).bind fun t220 => (if t220 = true then (if a0_3 = true then (impl_RefText.j0 k (⟨#[36]⟩ : ByteArray) a0_0 a0_1 a0_2 a0_3) else (impl_RefText.j0 k (⟨#[]⟩ : ByteArray) a0_0 a0_1 a0_2 a0_3)) else (some (⟨#[]⟩ : ByteArray)))) = some r := h
  clear h
  replace H := Option.bind_eq_some_iff.mp H
  obtain ⟨t220, A20, H⟩ := H
  replace H : (if t220 = true then (if a0_3 = true then (impl_RefText.j0 k (⟨#[36]⟩ : ByteArray) a0_0 a0_1 a0_2 a0_3) else (impl_RefText.j0 k (⟨#[]⟩ : ByteArray) a0_0 a0_1 a0_2 a0_3)) else (some (⟨#[]⟩ : ByteArray))) = some r := H
  have A2 := Aside0.mk A20
  clear A20
  by_cases c3 : t220 = true
  · subst c3
    have H1 : (if a0_3 = true then (impl_RefText.j0 k (⟨#[36]⟩ : ByteArray) a0_0 a0_1 a0_2 a0_3) else (impl_RefText.j0 k (⟨#[]⟩ : ByteArray) a0_0 a0_1 a0_2 a0_3)) = some r := by rw [if_pos rfl] at H; exact H
    clear H
    have H := H1
    clear H1
    have HC4 := Aside0.mk H
    clear H
    go_enter Tryd.func31, Tryd.ntmps31
    go_upto_if 8 with (first | ((with_reducible refine gate_dst (N := 1) rfl ?_); refine box_event ?hg (N := 1) ?hd (cs := #[.int .i64 a0_0, .int .i64 a0_1, .bool a0_2, .bool a0_3]) (t := 50) ?hr ?_; (case hd => rfl); (case hg => rfl); (case hr => first | (go_simp; done) | (go_simp; rfl)); intro gb219 hg w5 hbox hb; have n0_ := Aside0.mk (below_step (by repeat (first | (with_reducible first | exact HB.out | apply below_alloc | apply pw_below_drewN | apply below_drew1) | exact HB.out)) hb); have n1_ := Aside0.mk (hbox); have n2_ := Aside0.mk ((by rw [hg]; exact (below_size (by repeat (first | (with_reducible first | exact HB.out | apply below_alloc | apply pw_below_drewN | apply below_drew1) | exact HB.out))) : w.heap.size ≤ gb219)); have n3_ := Aside0.mk ((by rw [hg]; exact (below_size (by repeat (first | (with_reducible first | exact HB.out | apply below_alloc | apply pw_below_drewN | apply below_drew1) | exact HB.out))) : w.heap.size ≤ gb219)); clear HB; have HB := n0_; have BK219 := n1_; have GW219 := n2_; have GE219 := n3_; clear n0_ n1_ n2_ n3_; clear hb hbox hg; have hcz6_0 : w5.cell? ⟨gb219, 0, none⟩ = some (.int .i64 a0_0) := (blk_cell BK219.out 0).trans rfl; have hcz6_1 : w5.cell? ⟨gb219, 1, none⟩ = some (.int .i64 a0_1) := (blk_cell BK219.out 1).trans rfl; have hcz6_2 : w5.cell? ⟨gb219, 2, none⟩ = some (.bool a0_2) := (blk_cell BK219.out 2).trans rfl; have hcz6_3 : w5.cell? ⟨gb219, 3, none⟩ = some (.bool a0_3) := (blk_cell BK219.out 3).trans rfl; have hfz6_0 := blk_frozen BK219.out 0; have hfz6_1 := blk_frozen BK219.out 1; have hfz6_2 := blk_frozen BK219.out 2; have hfz6_3 := blk_frozen BK219.out 3) | ((with_reducible refine gate_callee (f := 80) rfl ?_); refine goesL_ (some 5) rfl rfl Tryd.func80 (by kernel_rfl) rfl #[.agg #[.int .i64 a0_0, .int .i64 a0_1, .bool a0_2, .bool a0_3]] rfl (by (try simp only [List.map_toArray, List.map_cons, List.map_nil]); first | done | rfl | (simp only [List.length_drop, List.length_take]; rfl)) ?_; (with_reducible refine (impl_GoodRef.calls a0_0 a0_1 a0_2 a0_3 true _ A2.out).mono ?_); rintro e w7 ⟨rfl, hb⟩; refine ⟨_, rfl, ?_⟩; have n0_ := Aside0.mk (blk_below (g := gb219) (o := .cells #[.int .i64 a0_0, .int .i64 a0_1, .bool a0_2, .bool a0_3] 50 (0, 0)) (by (with_reducible repeat (first | refine blk_drewN ?_ _ | refine blk_drew ?_ | refine blk_alloc ?_ _)); exact BK219.out) hb); have n1_ := Aside0.mk (below_step (by repeat (first | (with_reducible first | exact HB.out | apply below_alloc | apply pw_below_drewN | apply below_drew1 | refine below_set ?_ GE219.out) | exact HB.out)) hb); clear BK219; clear HB; have BK219 := n0_; have HB := n1_; clear n0_ n1_; (try clear hb); (try clear hb2); (try clear hk); (try clear hi); have hcz8_0 : w7.cell? ⟨gb219, 0, none⟩ = some (.int .i64 a0_0) := (blk_cell BK219.out 0).trans rfl; have hcz8_1 : w7.cell? ⟨gb219, 1, none⟩ = some (.int .i64 a0_1) := (blk_cell BK219.out 1).trans rfl; have hcz8_2 : w7.cell? ⟨gb219, 2, none⟩ = some (.bool a0_2) := (blk_cell BK219.out 2).trans rfl; have hcz8_3 : w7.cell? ⟨gb219, 3, none⟩ = some (.bool a0_3) := (blk_cell BK219.out 3).trans rfl; have hfz8_0 := blk_frozen BK219.out 0; have hfz8_1 := blk_frozen BK219.out 1; have hfz8_2 := blk_frozen BK219.out 2; have hfz8_3 := blk_frozen BK219.out 3))
    (try simp only [Act.put, List.setIfInBounds_toArray, List.set_cons_zero, List.set_cons_succ])
    go_cut [3] (fun v3 wc => ∃ (kq : Nat) (x3_3 : ByteArray), v3 = .string x3_3 ∧ Aside0 (impl_RefText.j0 kq x3_3 a0_0 a0_1 a0_2 a0_3 = some r) ∧ Aside0 (kq ≤ k) ∧ Aside0 (wc.heap[gb219]? = some (.cells #[.int .i64 a0_0, .int .i64 a0_1, .bool a0_2, .bool a0_3] 50 (0, 0))) ∧ Aside0 (Below w.heap.size w wc))
    case first =>
      have H := HC4.out
      clear HC4
      by_cases c9 : a0_3 = true
      · subst c9
        have H1 : (impl_RefText.j0 k (⟨#[36]⟩ : ByteArray) a0_0 a0_1 a0_2 true) = some r := by rw [if_pos rfl] at H; exact H
        clear H
        have H := H1
        clear H1
        have H' := Aside0.mk H
        clear H
        go_wp2
        go_meet
        case rel => exact ⟨_, ((⟨#[36]⟩ : ByteArray)), (by first | rfl | (simp; done) | (simp [*]; done) | (simp; unfold wrap64; omega)), H', ⟨by first | omega | exact Nat.le_refl _⟩, ⟨by (with_reducible repeat (first | refine blk_drewN ?_ _ | refine blk_drew ?_ | refine blk_alloc ?_ _)); exact BK219.out⟩, ⟨by repeat (first | (with_reducible first | exact HB.out | apply below_alloc | apply pw_below_drewN | apply below_drew1 | refine below_set ?_ GE219.out) | exact HB.out)⟩⟩
      · replace c9 := Bool.eq_false_iff.mpr c9
        subst c9
        have H1 : (impl_RefText.j0 k (⟨#[]⟩ : ByteArray) a0_0 a0_1 a0_2 false) = some r := by rw [if_neg (show ¬ (false = true) by decide)] at H; exact H
        clear H
        have H := H1
        clear H1
        have H' := Aside0.mk H
        clear H
        go_wp2
        go_meet
        case rel => exact ⟨_, ((⟨#[]⟩ : ByteArray)), (by first | rfl | (simp; done) | (simp [*]; done) | (simp; unfold wrap64; omega)), H', ⟨by first | omega | exact Nat.le_refl _⟩, ⟨by (with_reducible repeat (first | refine blk_drewN ?_ _ | refine blk_drew ?_ | refine blk_alloc ?_ _)); exact BK219.out⟩, ⟨by repeat (first | (with_reducible first | exact HB.out | apply below_alloc | apply pw_below_drewN | apply below_drew1 | refine below_set ?_ GE219.out) | exact HB.out)⟩⟩
    case rest =>
      clear HC4
      try clear p2
      try clear c3
      try clear c8
      try clear c9
      try clear hcz6_0
      try clear hcz6_1
      try clear hcz6_2
      try clear hcz6_3
      try clear hcz8_0
      try clear hcz8_1
      try clear hcz8_2
      try clear hcz8_3
      try clear hfz6_0
      try clear hfz6_1
      try clear hfz6_2
      try clear hfz6_3
      try clear hfz8_0
      try clear hfz8_1
      try clear hfz8_2
      try clear hfz8_3
      obtain ⟨kq, x3_3, rfl, HA, HJ3, BK219, HB⟩ := hcut
      cases kq with
      | zero => exact absurd HA.out (by simp [impl_RefText.j0])
      | succ kj3 =>
        have H := HA.out
        clear HA
        simp only [impl_RefText.j0] at H
        replace H := Option.bind_eq_some_iff.mp H
        obtain ⟨t221, A100, H⟩ := H
        replace H : (if x3_3.size + t221.size ≤ 9223372036854775807 then (if a0_2 = true then (if (x3_3 ++ t221).size + 1 ≤ 9223372036854775807 then ((strconv_Itoa.f a0_0).bind fun t222 => (if ((x3_3 ++ t221) ++ (⟨#[36]⟩ : ByteArray)).size + t222.size ≤ 9223372036854775807 then (some (((x3_3 ++ t221) ++ (⟨#[36]⟩ : ByteArray)) ++ t222)) else (none))) else (none)) else ((strconv_Itoa.f a0_0).bind fun t223 => (if (x3_3 ++ t221).size + t223.size ≤ 9223372036854775807 then (some ((x3_3 ++ t221) ++ t223)) else (none)))) else (none)) = some r := H
        have A10 := Aside0.mk A100
        clear A100
        by_cases c11 : x3_3.size + t221.size ≤ 9223372036854775807
        · rw [if_pos c11] at H
          have c11b0 := eq_true c11
          have c11b1 : decide (x3_3.size + t221.size ≤ 9223372036854775807) = true := decide_eq_true c11
          try have c11b2 : (9223372036854775807 < x3_3.size + t221.size) = False := eq_false (Nat.not_lt.2 c11)
          by_cases c12 : a0_2 = true
          · subst c12
            have H1 : (if (x3_3 ++ t221).size + 1 ≤ 9223372036854775807 then ((strconv_Itoa.f a0_0).bind fun t222 => (if ((x3_3 ++ t221) ++ (⟨#[36]⟩ : ByteArray)).size + t222.size ≤ 9223372036854775807 then (some (((x3_3 ++ t221) ++ (⟨#[36]⟩ : ByteArray)) ++ t222)) else (none))) else (none)) = some r := by rw [if_pos rfl] at H; exact H
            clear H
            have H := H1
            clear H1
            by_cases c13 : (x3_3 ++ t221).size + 1 ≤ 9223372036854775807
            · rw [if_pos c13] at H
              have c13b0 := eq_true c13
              have c13b1 : decide ((x3_3 ++ t221).size + 1 ≤ 9223372036854775807) = true := decide_eq_true c13
              try have c13b2 : (9223372036854775807 < (x3_3 ++ t221).size + 1) = False := eq_false (Nat.not_lt.2 c13)
              try have c13b28 : (9223372036854775807 < (x3_3.size + t221.size) + 1) = False := eq_false (Nat.not_lt.2 (by have h8_ := c13; simp only [ByteArray.size_append, ByteArray.size_extract, Nat.min_self, Nat.sub_zero] at h8_; exact h8_))
              replace H := Option.bind_eq_some_iff.mp H
              obtain ⟨t222, A140, H⟩ := H
              replace H : (if ((x3_3 ++ t221) ++ (⟨#[36]⟩ : ByteArray)).size + t222.size ≤ 9223372036854775807 then (some (((x3_3 ++ t221) ++ (⟨#[36]⟩ : ByteArray)) ++ t222)) else (none)) = some r := H
              have A14 := Aside0.mk A140
              clear A140
              by_cases c15 : ((x3_3 ++ t221) ++ (⟨#[36]⟩ : ByteArray)).size + t222.size ≤ 9223372036854775807
              · rw [if_pos c15] at H
                have c15b0 := eq_true c15
                have c15b1 : decide (((x3_3 ++ t221) ++ (⟨#[36]⟩ : ByteArray)).size + t222.size ≤ 9223372036854775807) = true := decide_eq_true c15
                try have c15b2 : (9223372036854775807 < ((x3_3 ++ t221) ++ (⟨#[36]⟩ : ByteArray)).size + t222.size) = False := eq_false (Nat.not_lt.2 c15)
                try have c15b28 : (9223372036854775807 < ((x3_3.size + t221.size) + 1) + t222.size) = False := eq_false (Nat.not_lt.2 (by have h8_ := c15; simp only [ByteArray.size_append, ByteArray.size_extract, Nat.min_self, Nat.sub_zero] at h8_; exact h8_))
                obtain rfl := Option.some.inj H
                have hcz16_0 : wc.cell? ⟨gb219, 0, none⟩ = some (.int .i64 a0_0) := (blk_cell BK219.out 0).trans rfl
                have hcz16_1 : wc.cell? ⟨gb219, 1, none⟩ = some (.int .i64 a0_1) := (blk_cell BK219.out 1).trans rfl
                have hcz16_2 : wc.cell? ⟨gb219, 2, none⟩ = some (.bool true) := (blk_cell BK219.out 2).trans rfl
                have hcz16_3 : wc.cell? ⟨gb219, 3, none⟩ = some (.bool a0_3) := (blk_cell BK219.out 3).trans rfl
                have hfz16_0 := blk_frozen BK219.out 0
                have hfz16_1 := blk_frozen BK219.out 1
                have hfz16_2 := blk_frozen BK219.out 2
                have hfz16_3 := blk_frozen BK219.out 3
                go_wp2_with (first | ((with_reducible refine gate_callee (f := 37) rfl ?_); refine goesL_ (some 12) rfl rfl Tryd.func37 (by kernel_rfl) rfl #[.int .i64 a0_1] rfl (by (try simp only [List.map_toArray, List.map_cons, List.map_nil]); first | done | rfl | (simp only [List.length_drop, List.length_take]; rfl)) ?_; (with_reducible refine (impl_ColName.calls kj3 a0_1 t221 _ A10.out).mono ?_); rintro e w17 ⟨rfl, hb⟩; refine ⟨_, rfl, ?_⟩; have n0_ := Aside0.mk (blk_below (g := gb219) (o := .cells #[.int .i64 a0_0, .int .i64 a0_1, .bool true, .bool a0_3] 50 (0, 0)) (by (with_reducible repeat (first | refine blk_drewN ?_ _ | refine blk_drew ?_ | refine blk_alloc ?_ _)); exact BK219.out) hb); have n1_ := Aside0.mk (below_step (by repeat (first | (with_reducible first | exact HB.out | apply below_alloc | apply pw_below_drewN | apply below_drew1 | refine below_set ?_ GE219.out) | exact HB.out)) hb); clear BK219; clear HB; have BK219 := n0_; have HB := n1_; clear n0_ n1_; (try clear hb); (try clear hb2); (try clear hk); (try clear hi); have hcz18_0 : w17.cell? ⟨gb219, 0, none⟩ = some (.int .i64 a0_0) := (blk_cell BK219.out 0).trans rfl; have hcz18_1 : w17.cell? ⟨gb219, 1, none⟩ = some (.int .i64 a0_1) := (blk_cell BK219.out 1).trans rfl; have hcz18_2 : w17.cell? ⟨gb219, 2, none⟩ = some (.bool true) := (blk_cell BK219.out 2).trans rfl; have hcz18_3 : w17.cell? ⟨gb219, 3, none⟩ = some (.bool a0_3) := (blk_cell BK219.out 3).trans rfl; have hfz18_0 := blk_frozen BK219.out 0; have hfz18_1 := blk_frozen BK219.out 1; have hfz18_2 := blk_frozen BK219.out 2; have hfz18_3 := blk_frozen BK219.out 3) | ((with_reducible refine gate_callee (f := 81) rfl ?_); refine goesL_ (some 21) rfl rfl Tryd.func81 (by kernel_rfl) rfl #[.int .i64 a0_0] rfl (by (try simp only [List.map_toArray, List.map_cons, List.map_nil]); first | done | rfl | (simp only [List.length_drop, List.length_take]; rfl)) ?_; (with_reducible refine (strconv_Itoa.calls a0_0 t222 _ (hT.below (by repeat (first | exact HB.out | exact Below.refl _ _ | apply below_alloc | apply pw_below_drewN | apply below_drew1 | refine below_set ?_ GE219.out))) A14.out).mono ?_); rintro e w19 ⟨rfl, hb⟩; refine ⟨_, rfl, ?_⟩; have n0_ := Aside0.mk (blk_below (g := gb219) (o := .cells #[.int .i64 a0_0, .int .i64 a0_1, .bool true, .bool a0_3] 50 (0, 0)) (by (with_reducible repeat (first | refine blk_drewN ?_ _ | refine blk_drew ?_ | refine blk_alloc ?_ _)); exact BK219.out) hb); have n1_ := Aside0.mk (below_step (by repeat (first | (with_reducible first | exact HB.out | apply below_alloc | apply pw_below_drewN | apply below_drew1 | refine below_set ?_ GE219.out) | exact HB.out)) hb); clear BK219; clear HB; have BK219 := n0_; have HB := n1_; clear n0_ n1_; (try clear hb); (try clear hb2); (try clear hk); (try clear hi)))
                go_ret
                exact ⟨by first | rfl | (simp [errW_none, errW_some] <;> rfl) | (simp [*, errW_none, errW_some] <;> rfl), by repeat (first | (with_reducible first | exact HB.out | apply below_alloc | apply pw_below_drewN | apply below_drew1 | refine below_set ?_ GE219.out) | exact HB.out)⟩
              · rw [if_neg c15] at H
                exact absurd H (by simp)
            · rw [if_neg c13] at H
              exact absurd H (by simp)
          · replace c12 := Bool.eq_false_iff.mpr c12
            subst c12
            have H1 : ((strconv_Itoa.f a0_0).bind fun t223 => (if (x3_3 ++ t221).size + t223.size ≤ 9223372036854775807 then (some ((x3_3 ++ t221) ++ t223)) else (none))) = some r := by rw [if_neg (show ¬ (false = true) by decide)] at H; exact H
            clear H
            have H := H1
            clear H1
            replace H := Option.bind_eq_some_iff.mp H
            obtain ⟨t223, A200, H⟩ := H
            replace H : (if (x3_3 ++ t221).size + t223.size ≤ 9223372036854775807 then (some ((x3_3 ++ t221) ++ t223)) else (none)) = some r := H
            have A20 := Aside0.mk A200
            clear A200
            by_cases c21 : (x3_3 ++ t221).size + t223.size ≤ 9223372036854775807
            · rw [if_pos c21] at H
              have c21b0 := eq_true c21
              have c21b1 : decide ((x3_3 ++ t221).size + t223.size ≤ 9223372036854775807) = true := decide_eq_true c21
              try have c21b2 : (9223372036854775807 < (x3_3 ++ t221).size + t223.size) = False := eq_false (Nat.not_lt.2 c21)
              try have c21b28 : (9223372036854775807 < (x3_3.size + t221.size) + t223.size) = False := eq_false (Nat.not_lt.2 (by have h8_ := c21; simp only [ByteArray.size_append, ByteArray.size_extract, Nat.min_self, Nat.sub_zero] at h8_; exact h8_))
              obtain rfl := Option.some.inj H
              have hcz22_0 : wc.cell? ⟨gb219, 0, none⟩ = some (.int .i64 a0_0) := (blk_cell BK219.out 0).trans rfl
              have hcz22_1 : wc.cell? ⟨gb219, 1, none⟩ = some (.int .i64 a0_1) := (blk_cell BK219.out 1).trans rfl
              have hcz22_2 : wc.cell? ⟨gb219, 2, none⟩ = some (.bool false) := (blk_cell BK219.out 2).trans rfl
              have hcz22_3 : wc.cell? ⟨gb219, 3, none⟩ = some (.bool a0_3) := (blk_cell BK219.out 3).trans rfl
              have hfz22_0 := blk_frozen BK219.out 0
              have hfz22_1 := blk_frozen BK219.out 1
              have hfz22_2 := blk_frozen BK219.out 2
              have hfz22_3 := blk_frozen BK219.out 3
              go_wp2_with (first | ((with_reducible refine gate_callee (f := 37) rfl ?_); refine goesL_ (some 12) rfl rfl Tryd.func37 (by kernel_rfl) rfl #[.int .i64 a0_1] rfl (by (try simp only [List.map_toArray, List.map_cons, List.map_nil]); first | done | rfl | (simp only [List.length_drop, List.length_take]; rfl)) ?_; (with_reducible refine (impl_ColName.calls kj3 a0_1 t221 _ A10.out).mono ?_); rintro e w23 ⟨rfl, hb⟩; refine ⟨_, rfl, ?_⟩; have n0_ := Aside0.mk (blk_below (g := gb219) (o := .cells #[.int .i64 a0_0, .int .i64 a0_1, .bool false, .bool a0_3] 50 (0, 0)) (by (with_reducible repeat (first | refine blk_drewN ?_ _ | refine blk_drew ?_ | refine blk_alloc ?_ _)); exact BK219.out) hb); have n1_ := Aside0.mk (below_step (by repeat (first | (with_reducible first | exact HB.out | apply below_alloc | apply pw_below_drewN | apply below_drew1 | refine below_set ?_ GE219.out) | exact HB.out)) hb); clear BK219; clear HB; have BK219 := n0_; have HB := n1_; clear n0_ n1_; (try clear hb); (try clear hb2); (try clear hk); (try clear hi); have hcz24_0 : w23.cell? ⟨gb219, 0, none⟩ = some (.int .i64 a0_0) := (blk_cell BK219.out 0).trans rfl; have hcz24_1 : w23.cell? ⟨gb219, 1, none⟩ = some (.int .i64 a0_1) := (blk_cell BK219.out 1).trans rfl; have hcz24_2 : w23.cell? ⟨gb219, 2, none⟩ = some (.bool false) := (blk_cell BK219.out 2).trans rfl; have hcz24_3 : w23.cell? ⟨gb219, 3, none⟩ = some (.bool a0_3) := (blk_cell BK219.out 3).trans rfl; have hfz24_0 := blk_frozen BK219.out 0; have hfz24_1 := blk_frozen BK219.out 1; have hfz24_2 := blk_frozen BK219.out 2; have hfz24_3 := blk_frozen BK219.out 3) | ((with_reducible refine gate_callee (f := 81) rfl ?_); refine goesL_ (some 21) rfl rfl Tryd.func81 (by kernel_rfl) rfl #[.int .i64 a0_0] rfl (by (try simp only [List.map_toArray, List.map_cons, List.map_nil]); first | done | rfl | (simp only [List.length_drop, List.length_take]; rfl)) ?_; (with_reducible refine (strconv_Itoa.calls a0_0 t223 _ (hT.below (by repeat (first | exact HB.out | exact Below.refl _ _ | apply below_alloc | apply pw_below_drewN | apply below_drew1 | refine below_set ?_ GE219.out))) A20.out).mono ?_); rintro e w25 ⟨rfl, hb⟩; refine ⟨_, rfl, ?_⟩; have n0_ := Aside0.mk (blk_below (g := gb219) (o := .cells #[.int .i64 a0_0, .int .i64 a0_1, .bool false, .bool a0_3] 50 (0, 0)) (by (with_reducible repeat (first | refine blk_drewN ?_ _ | refine blk_drew ?_ | refine blk_alloc ?_ _)); exact BK219.out) hb); have n1_ := Aside0.mk (below_step (by repeat (first | (with_reducible first | exact HB.out | apply below_alloc | apply pw_below_drewN | apply below_drew1 | refine below_set ?_ GE219.out) | exact HB.out)) hb); clear BK219; clear HB; have BK219 := n0_; have HB := n1_; clear n0_ n1_; (try clear hb); (try clear hb2); (try clear hk); (try clear hi)))
              go_ret
              exact ⟨by first | rfl | (simp [errW_none, errW_some] <;> rfl) | (simp [*, errW_none, errW_some] <;> rfl), by repeat (first | (with_reducible first | exact HB.out | apply below_alloc | apply pw_below_drewN | apply below_drew1 | refine below_set ?_ GE219.out) | exact HB.out)⟩
            · rw [if_neg c21] at H
              exact absurd H (by simp)
        · rw [if_neg c11] at H
          exact absurd H (by simp)
  · replace c3 := Bool.eq_false_iff.mpr c3
    subst c3
    have H1 : (some (⟨#[]⟩ : ByteArray)) = some r := by rw [if_neg (show ¬ (false = true) by decide)] at H; exact H
    clear H
    have H := H1
    clear H1
    obtain rfl := Option.some.inj H
    go_enter Tryd.func31, Tryd.ntmps31
    go_wp2_with (first | ((with_reducible refine gate_dst (N := 1) rfl ?_); refine box_event ?hg (N := 1) ?hd (cs := #[.int .i64 a0_0, .int .i64 a0_1, .bool a0_2, .bool a0_3]) (t := 50) ?hr ?_; (case hd => rfl); (case hg => rfl); (case hr => first | (go_simp; done) | (go_simp; rfl)); intro gb219 hg w26 hbox hb; have n0_ := Aside0.mk (below_step (by repeat (first | (with_reducible first | exact HB.out | apply below_alloc | apply pw_below_drewN | apply below_drew1) | exact HB.out)) hb); have n1_ := Aside0.mk (hbox); have n2_ := Aside0.mk ((by rw [hg]; exact (below_size (by repeat (first | (with_reducible first | exact HB.out | apply below_alloc | apply pw_below_drewN | apply below_drew1) | exact HB.out))) : w.heap.size ≤ gb219)); have n3_ := Aside0.mk ((by rw [hg]; exact (below_size (by repeat (first | (with_reducible first | exact HB.out | apply below_alloc | apply pw_below_drewN | apply below_drew1) | exact HB.out))) : w.heap.size ≤ gb219)); clear HB; have HB := n0_; have BK219 := n1_; have GW219 := n2_; have GE219 := n3_; clear n0_ n1_ n2_ n3_; clear hb hbox hg; have hcz27_0 : w26.cell? ⟨gb219, 0, none⟩ = some (.int .i64 a0_0) := (blk_cell BK219.out 0).trans rfl; have hcz27_1 : w26.cell? ⟨gb219, 1, none⟩ = some (.int .i64 a0_1) := (blk_cell BK219.out 1).trans rfl; have hcz27_2 : w26.cell? ⟨gb219, 2, none⟩ = some (.bool a0_2) := (blk_cell BK219.out 2).trans rfl; have hcz27_3 : w26.cell? ⟨gb219, 3, none⟩ = some (.bool a0_3) := (blk_cell BK219.out 3).trans rfl; have hfz27_0 := blk_frozen BK219.out 0; have hfz27_1 := blk_frozen BK219.out 1; have hfz27_2 := blk_frozen BK219.out 2; have hfz27_3 := blk_frozen BK219.out 3) | ((with_reducible refine gate_callee (f := 80) rfl ?_); refine goesL_ (some 5) rfl rfl Tryd.func80 (by kernel_rfl) rfl #[.agg #[.int .i64 a0_0, .int .i64 a0_1, .bool a0_2, .bool a0_3]] rfl (by (try simp only [List.map_toArray, List.map_cons, List.map_nil]); first | done | rfl | (simp only [List.length_drop, List.length_take]; rfl)) ?_; (with_reducible refine (impl_GoodRef.calls a0_0 a0_1 a0_2 a0_3 false _ A2.out).mono ?_); rintro e w28 ⟨rfl, hb⟩; refine ⟨_, rfl, ?_⟩; have n0_ := Aside0.mk (blk_below (g := gb219) (o := .cells #[.int .i64 a0_0, .int .i64 a0_1, .bool a0_2, .bool a0_3] 50 (0, 0)) (by (with_reducible repeat (first | refine blk_drewN ?_ _ | refine blk_drew ?_ | refine blk_alloc ?_ _)); exact BK219.out) hb); have n1_ := Aside0.mk (below_step (by repeat (first | (with_reducible first | exact HB.out | apply below_alloc | apply pw_below_drewN | apply below_drew1 | refine below_set ?_ GE219.out) | exact HB.out)) hb); clear BK219; clear HB; have BK219 := n0_; have HB := n1_; clear n0_ n1_; (try clear hb); (try clear hb2); (try clear hk); (try clear hi)))
    go_ret
    exact ⟨by first | rfl | (simp [errW_none, errW_some] <;> rfl) | (simp [*, errW_none, errW_some] <;> rfl), by repeat (first | (with_reducible first | exact HB.out | apply below_alloc | apply pw_below_drewN | apply below_drew1 | refine below_set ?_ GE219.out) | exact HB.out)⟩



/-! ### impl_partBy: function 83 -/

def impl_partBy.f (a0 : ByteArray) (a1 : Int) (a2 : Bool) (a3 : Int) : Option (ByteArray) := if a2 = true then ((strconv_Itoa.f a1).bind fun t224 => (if a0.size + t224.size ≤ 9223372036854775807 then (some (a0 ++ t224)) else (none))) else (if a1 = a3 then (some a0) else (if a0.size + 1 ≤ 9223372036854775807 then ((strconv_Itoa.f (wrap64 (a1 - a3))).bind fun t225 => (if (a0 ++ (⟨#[91]⟩ : ByteArray)).size + t225.size ≤ 9223372036854775807 then (if ((a0 ++ (⟨#[91]⟩ : ByteArray)) ++ t225).size + 1 ≤ 9223372036854775807 then (some (((a0 ++ (⟨#[91]⟩ : ByteArray)) ++ t225) ++ (⟨#[93]⟩ : ByteArray))) else (none)) else (none))) else (none)))

set_option maxHeartbeats 8000000 in
set_option maxRecDepth 100000 in
theorem impl_partBy.calls (a0 : ByteArray) (a1 : Int) (a2 : Bool) (a3 : Int) (r : ByteArray) (w : World) (hT : Tab w) (h : impl_partBy.f a0 a1 a2 a3 = some r) :
    Calls Tryd.prog 83 #[.string a0, .int .i64 a1, .bool a2, .int .i64 a3] w fun e w' => e = .returned (.string r) ∧ Below w.heap.size w w' := by
  have HB := Aside0.mk (Below.refl w.heap.size w)
  have H : (if a2 = true then ((strconv_Itoa.f a1).bind fun t224 => (if a0.size + t224.size ≤ 9223372036854775807 then (some (a0 ++ t224)) else (none))) else (if a1 = a3 then (some a0) else (if a0.size + 1 ≤ 9223372036854775807 then ((strconv_Itoa.f (wrap64 (a1 - a3))).bind fun t225 => (if (a0 ++ (⟨#[91]⟩ : ByteArray)).size + t225.size ≤ 9223372036854775807 then (if ((a0 ++ (⟨#[91]⟩ : ByteArray)) ++ t225).size + 1 ≤ 9223372036854775807 then (some (((a0 ++ (⟨#[91]⟩ : ByteArray)) ++ t225) ++ (⟨#[93]⟩ : ByteArray))) else (none)) else (none))) else (none)))) = some r := h
  clear h
  by_cases c5 : a2 = true
  · subst c5
    have H1 : ((strconv_Itoa.f a1).bind fun t224 => (if a0.size + t224.size ≤ 9223372036854775807 then (some (a0 ++ t224)) else (none))) = some r := by rw [if_pos rfl] at H; exact H
    clear H
    have H := H1
    clear H1
    replace H := Option.bind_eq_some_iff.mp H
    obtain ⟨t224, A60, H⟩ := H
    replace H : (if a0.size + t224.size ≤ 9223372036854775807 then (some (a0 ++ t224)) else (none)) = some r := H
    have A6 := Aside0.mk A60
    clear A60
    by_cases c7 : a0.size + t224.size ≤ 9223372036854775807
    · rw [if_pos c7] at H
      have c7b0 := eq_true c7
      have c7b1 : decide (a0.size + t224.size ≤ 9223372036854775807) = true := decide_eq_true c7
      try have c7b2 : (9223372036854775807 < a0.size + t224.size) = False := eq_false (Nat.not_lt.2 c7)
      obtain rfl := Option.some.inj H
      go_enter Tryd.func83, Tryd.ntmps83
      go_wp2_with (first | ((with_reducible refine gate_callee (f := 81) rfl ?_); refine goesL_ (some 13) rfl rfl Tryd.func81 (by kernel_rfl) rfl #[.int .i64 a1] rfl (by (try simp only [List.map_toArray, List.map_cons, List.map_nil]); first | done | rfl | (simp only [List.length_drop, List.length_take]; rfl)) ?_; (with_reducible refine (strconv_Itoa.calls a1 t224 _ (hT.below (by repeat (first | exact HB.out | exact Below.refl _ _ | apply below_alloc | apply pw_below_drewN | apply below_drew1))) A6.out).mono ?_); rintro e w8 ⟨rfl, hb⟩; refine ⟨_, rfl, ?_⟩; have n0_ := Aside0.mk (below_step (by repeat (first | (with_reducible first | exact HB.out | apply below_alloc | apply pw_below_drewN | apply below_drew1) | exact HB.out)) hb); clear HB; have HB := n0_; clear n0_; (try clear hb); (try clear hb2); (try clear hk); (try clear hi)))
      go_ret
      exact ⟨by first | rfl | (simp [errW_none, errW_some] <;> rfl) | (simp [*, errW_none, errW_some] <;> rfl), by repeat (first | (with_reducible first | exact HB.out | apply below_alloc | apply pw_below_drewN | apply below_drew1) | exact HB.out)⟩
    · rw [if_neg c7] at H
      exact absurd H (by simp)
  · replace c5 := Bool.eq_false_iff.mpr c5
    subst c5
    have H1 : (if a1 = a3 then (some a0) else (if a0.size + 1 ≤ 9223372036854775807 then ((strconv_Itoa.f (wrap64 (a1 - a3))).bind fun t225 => (if (a0 ++ (⟨#[91]⟩ : ByteArray)).size + t225.size ≤ 9223372036854775807 then (if ((a0 ++ (⟨#[91]⟩ : ByteArray)) ++ t225).size + 1 ≤ 9223372036854775807 then (some (((a0 ++ (⟨#[91]⟩ : ByteArray)) ++ t225) ++ (⟨#[93]⟩ : ByteArray))) else (none)) else (none))) else (none))) = some r := by rw [if_neg (show ¬ (false = true) by decide)] at H; exact H
    clear H
    have H := H1
    clear H1
    by_cases c9 : a1 = a3
    · rw [if_pos c9] at H
      have c9b0 : (a1 == a3) = true := beq_iff_eq.mpr c9
      have c9b1 : (a1 != a3) = false := bne_eq_false_iff_eq.mpr c9
      clear c9
      obtain rfl := Option.some.inj H
      go_enter Tryd.func83, Tryd.ntmps83
      go_wp2
      go_ret
      exact ⟨by first | rfl | (simp [errW_none, errW_some] <;> rfl) | (simp [*, errW_none, errW_some] <;> rfl), by repeat (first | (with_reducible first | exact HB.out | apply below_alloc | apply pw_below_drewN | apply below_drew1) | exact HB.out)⟩
    · rw [if_neg c9] at H
      have c9b0 : (a1 == a3) = false := beq_eq_false_iff_ne.mpr c9
      have c9b1 : (a1 != a3) = true := bne_iff_ne.mpr c9
      by_cases c10 : a0.size + 1 ≤ 9223372036854775807
      · rw [if_pos c10] at H
        have c10b0 := eq_true c10
        have c10b1 : decide (a0.size + 1 ≤ 9223372036854775807) = true := decide_eq_true c10
        try have c10b2 : (9223372036854775807 < a0.size + 1) = False := eq_false (Nat.not_lt.2 c10)
        replace H := Option.bind_eq_some_iff.mp H
        obtain ⟨t225, A110, H⟩ := H
        replace H : (if (a0 ++ (⟨#[91]⟩ : ByteArray)).size + t225.size ≤ 9223372036854775807 then (if ((a0 ++ (⟨#[91]⟩ : ByteArray)) ++ t225).size + 1 ≤ 9223372036854775807 then (some (((a0 ++ (⟨#[91]⟩ : ByteArray)) ++ t225) ++ (⟨#[93]⟩ : ByteArray))) else (none)) else (none)) = some r := H
        have A11 := Aside0.mk A110
        clear A110
        by_cases c12 : (a0 ++ (⟨#[91]⟩ : ByteArray)).size + t225.size ≤ 9223372036854775807
        · rw [if_pos c12] at H
          have c12b0 := eq_true c12
          have c12b1 : decide ((a0 ++ (⟨#[91]⟩ : ByteArray)).size + t225.size ≤ 9223372036854775807) = true := decide_eq_true c12
          try have c12b2 : (9223372036854775807 < (a0 ++ (⟨#[91]⟩ : ByteArray)).size + t225.size) = False := eq_false (Nat.not_lt.2 c12)
          try have c12b28 : (9223372036854775807 < (a0.size + 1) + t225.size) = False := eq_false (Nat.not_lt.2 (by have h8_ := c12; simp only [ByteArray.size_append, ByteArray.size_extract, Nat.min_self, Nat.sub_zero] at h8_; exact h8_))
          by_cases c13 : ((a0 ++ (⟨#[91]⟩ : ByteArray)) ++ t225).size + 1 ≤ 9223372036854775807
          · rw [if_pos c13] at H
            have c13b0 := eq_true c13
            have c13b1 : decide (((a0 ++ (⟨#[91]⟩ : ByteArray)) ++ t225).size + 1 ≤ 9223372036854775807) = true := decide_eq_true c13
            try have c13b2 : (9223372036854775807 < ((a0 ++ (⟨#[91]⟩ : ByteArray)) ++ t225).size + 1) = False := eq_false (Nat.not_lt.2 c13)
            try have c13b28 : (9223372036854775807 < ((a0.size + 1) + t225.size) + 1) = False := eq_false (Nat.not_lt.2 (by have h8_ := c13; simp only [ByteArray.size_append, ByteArray.size_extract, Nat.min_self, Nat.sub_zero] at h8_; exact h8_))
            obtain rfl := Option.some.inj H
            go_enter Tryd.func83, Tryd.ntmps83
            go_wp2_with (first | ((with_reducible refine gate_callee (f := 81) rfl ?_); refine goesL_ (some 25) rfl rfl Tryd.func81 (by kernel_rfl) rfl #[.int .i64 (wrap64 (a1 - a3))] rfl (by (try simp only [List.map_toArray, List.map_cons, List.map_nil]); first | done | rfl | (simp only [List.length_drop, List.length_take]; rfl)) ?_; (with_reducible refine (strconv_Itoa.calls (wrap64 (a1 - a3)) t225 _ (hT.below (by repeat (first | exact HB.out | exact Below.refl _ _ | apply below_alloc | apply pw_below_drewN | apply below_drew1))) A11.out).mono ?_); rintro e w14 ⟨rfl, hb⟩; refine ⟨_, rfl, ?_⟩; have n0_ := Aside0.mk (below_step (by repeat (first | (with_reducible first | exact HB.out | apply below_alloc | apply pw_below_drewN | apply below_drew1) | exact HB.out)) hb); clear HB; have HB := n0_; clear n0_; (try clear hb); (try clear hb2); (try clear hk); (try clear hi)))
            go_ret
            exact ⟨by first | rfl | (simp [errW_none, errW_some] <;> rfl) | (simp [*, errW_none, errW_some] <;> rfl), by repeat (first | (with_reducible first | exact HB.out | apply below_alloc | apply pw_below_drewN | apply below_drew1) | exact HB.out)⟩
          · rw [if_neg c13] at H
            exact absurd H (by simp)
        · rw [if_neg c12] at H
          exact absurd H (by simp)
      · rw [if_neg c10] at H
        exact absurd H (by simp)



/-! ### impl_RefTextBy: function 32 -/

def impl_RefTextBy.j0 : Nat → Int → Int → Bool → Int → Int → Bool → Bool → Option (ByteArray)
  | 0, _, _, _, _, _, _, _ => none
  | k + 1, x1, x2, x16, x227000, x227001, x227002, x227003 => if x16 = true then (some (⟨#[]⟩ : ByteArray)) else ((impl_partBy.f (⟨#[82]⟩ : ByteArray) x227000 x227002 x1).bind fun t229 => ((impl_partBy.f (⟨#[67]⟩ : ByteArray) x227001 x227003 x2).bind fun t230 => (if t229.size + t230.size ≤ 9223372036854775807 then (some (t229 ++ t230)) else (none))))

def impl_RefTextBy.f (k : Nat) (a0_0 : Int) (a0_1 : Int) (a0_2 : Bool) (a0_3 : Bool) (a1 : Int) (a2 : Int) : Option (ByteArray) := (impl_GoodRef.f a0_0 a0_1 a0_2 a0_3).bind fun t227 => (if t227 = true then ((impl_place_good.f a1 a2).bind fun t228 => (impl_RefTextBy.j0 k a1 a2 (!t228) a0_0 a0_1 a0_2 a0_3)) else (impl_RefTextBy.j0 k a1 a2 true a0_0 a0_1 a0_2 a0_3))

theorem impl_RefTextBy.mono_l : ∀ k, (∀ y0 y1 y2 y3 y4 y5 y6, LeO (impl_RefTextBy.j0 k y0 y1 y2 y3 y4 y5 y6) (impl_RefTextBy.j0 (k + 1) y0 y1 y2 y3 y4 y5 y6))
  | 0 => fun _ _ _ _ _ _ _ r h => by simp [impl_RefTextBy.j0] at h
  | k + 1 => by
    have ih0 := impl_RefTextBy.mono_l k
    · intro y0 y1 y2 y3 y4 y5 y6
      unfold impl_RefTextBy.j0
      repeat' first
      | (with_reducible exact ih0 _ _ _ _ _ _ _)
      | (with_reducible exact LeO.refl _)
      | (with_reducible exact LeO.none _)
      | (with_reducible refine LeO.ite ?_ ?_)
      | (with_reducible refine LeO.bind ?_ (fun _ => ?_))
      | exact ih0 _ _ _ _ _ _ _
      | exact LeO.none _
      | refine LeO.ite ?_ ?_
      | refine LeO.bind ?_ (fun _ => ?_)

theorem impl_RefTextBy.mono : ∀ a0 a1 a2 a3 a4 a5 k, LeO (impl_RefTextBy.f k a0 a1 a2 a3 a4 a5) (impl_RefTextBy.f (k + 1) a0 a1 a2 a3 a4 a5) := by
  intro a0 a1 a2 a3 a4 a5 k
  have ih0 := impl_RefTextBy.mono_l k
  unfold impl_RefTextBy.f
  repeat' first
      | (with_reducible exact ih0 _ _ _ _ _ _ _)
      | (with_reducible exact LeO.refl _)
      | (with_reducible exact LeO.none _)
      | (with_reducible refine LeO.ite ?_ ?_)
      | (with_reducible refine LeO.bind ?_ (fun _ => ?_))
      | exact ih0 _ _ _ _ _ _ _
      | exact LeO.none _
      | refine LeO.ite ?_ ?_
      | refine LeO.bind ?_ (fun _ => ?_)

def impl_RefTextBy.T3 : Bool × List (List Nat × List Nat) := (true, [([], []), ([0], [0]), ([], []), ([2], [2]), ([], []), ([1, 3, 4], [1, 3, 4]), ([], []), ([6], [6]), ([], []), ([8], [8]), ([], []), ([7, 9, 10, 5], [7, 9, 10]), ([5, 11], [5, 11]), ([12, 11, 0, 1, 2, 3, 4, 5, 6, 7, 8, 9, 10, 11, 12], [12])])

def impl_RefTextBy.B3 : List Nat := [0, 1, 0, 4, 0, 31, 0, 64, 0, 256, 0, 2047, 4095, 8191]

theorem impl_RefTextBy.tab3 : rtab .any (opsOf Tryd.f32 3) = impl_RefTextBy.T3 := by kernel_rfl

theorem impl_RefTextBy.bits3 : waitsOk impl_RefTextBy.T3.2 impl_RefTextBy.B3 = true := by kernel_rfl

set_option maxHeartbeats 8000000 in
set_option maxRecDepth 100000 in
theorem impl_RefTextBy.calls (k : Nat) (a0_0 : Int) (a0_1 : Int) (a0_2 : Bool) (a0_3 : Bool) (a1 : Int) (a2 : Int) (r : ByteArray) (w : World) (hT : Tab w) (h : impl_RefTextBy.f k a0_0 a0_1 a0_2 a0_3 a1 a2 = some r) :
    Calls Tryd.prog 32 #[.agg #[.int .i64 a0_0, .int .i64 a0_1, .bool a0_2, .bool a0_3], .int .i64 a1, .int .i64 a2] w fun e w' => e = .returned (.string r) ∧ Below w.heap.size w w' := by
  have hu50 := Tryd.underlying50
  have hu97 := Tryd.underlying97
  have HB := Aside0.mk (Below.refl w.heap.size w)
  have H : ((impl_GoodRef.f a0_0 a0_1 a0_2 a0_3).bind fun t227 => (if t227 = true then ((impl_place_good.f a1 a2).bind fun t228 => (impl_RefTextBy.j0 k a1 a2 (!t228) a0_0 a0_1 a0_2 a0_3)) else (impl_RefTextBy.j0 k a1 a2 true a0_0 a0_1 a0_2 a0_3))) = some r := h
  clear h
  have HC4 := Aside0.mk H
  clear H
  go_enter Tryd.func32, Tryd.ntmps32
  go_upto_region 1 with (first | ((with_reducible refine gate_dst (N := 3) rfl ?_); refine box_event ?hg (N := 3) ?hd (cs := #[.int .i64 a0_0, .int .i64 a0_1, .bool a0_2, .bool a0_3]) (t := 50) ?hr ?_; (case hd => rfl); (case hg => rfl); (case hr => first | (go_simp; done) | (go_simp; rfl)); intro gb226 hg w5 hbox hb; have n0_ := Aside0.mk (below_step (by repeat (first | (with_reducible first | exact HB.out | apply below_alloc | apply pw_below_drewN | apply below_drew1) | exact HB.out)) hb); have n1_ := Aside0.mk (hbox); have n2_ := Aside0.mk ((by rw [hg]; exact (below_size (by repeat (first | (with_reducible first | exact HB.out | apply below_alloc | apply pw_below_drewN | apply below_drew1) | exact HB.out))) : w.heap.size ≤ gb226)); have n3_ := Aside0.mk ((by rw [hg]; exact (below_size (by repeat (first | (with_reducible first | exact HB.out | apply below_alloc | apply pw_below_drewN | apply below_drew1) | exact HB.out))) : w.heap.size ≤ gb226)); clear HB; have HB := n0_; have BK226 := n1_; have GW226 := n2_; have GE226 := n3_; clear n0_ n1_ n2_ n3_; clear hb hbox hg))
  (try simp only [Act.put, List.setIfInBounds_toArray, List.set_cons_zero, List.set_cons_succ])
  go_cut [16] (fun v16 wc => ∃ (kq : Nat) (x16_3 : Bool), v16 = .bool x16_3 ∧ Aside0 (impl_RefTextBy.j0 kq a1 a2 x16_3 a0_0 a0_1 a0_2 a0_3 = some r) ∧ Aside0 (kq ≤ k) ∧ Aside0 (wc.heap[gb226]? = some (.cells #[.int .i64 a0_0, .int .i64 a0_1, .bool a0_2, .bool a0_3] 50 (0, 0))) ∧ Aside0 (Below w.heap.size w wc))
  case first =>
    have H := HC4.out
    clear HC4
    replace H := Option.bind_eq_some_iff.mp H
    obtain ⟨t227, A60, H⟩ := H
    replace H : (if t227 = true then ((impl_place_good.f a1 a2).bind fun t228 => (impl_RefTextBy.j0 k a1 a2 (!t228) a0_0 a0_1 a0_2 a0_3)) else (impl_RefTextBy.j0 k a1 a2 true a0_0 a0_1 a0_2 a0_3)) = some r := H
    have A6 := Aside0.mk A60
    clear A60
    by_cases c7 : t227 = true
    · subst c7
      have H1 : ((impl_place_good.f a1 a2).bind fun t228 => (impl_RefTextBy.j0 k a1 a2 (!t228) a0_0 a0_1 a0_2 a0_3)) = some r := by rw [if_pos rfl] at H; exact H
      clear H
      have H := H1
      clear H1
      replace H := Option.bind_eq_some_iff.mp H
      obtain ⟨t228, A80, H⟩ := H
      replace H : (impl_RefTextBy.j0 k a1 a2 (!t228) a0_0 a0_1 a0_2 a0_3) = some r := H
      have A8 := Aside0.mk A80
      clear A80
      have H' := Aside0.mk H
      clear H
      have hcz9_0 : w5.cell? ⟨gb226, 0, none⟩ = some (.int .i64 a0_0) := (blk_cell BK226.out 0).trans rfl
      have hcz9_1 : w5.cell? ⟨gb226, 1, none⟩ = some (.int .i64 a0_1) := (blk_cell BK226.out 1).trans rfl
      have hcz9_2 : w5.cell? ⟨gb226, 2, none⟩ = some (.bool a0_2) := (blk_cell BK226.out 2).trans rfl
      have hcz9_3 : w5.cell? ⟨gb226, 3, none⟩ = some (.bool a0_3) := (blk_cell BK226.out 3).trans rfl
      have hfz9_0 := blk_frozen BK226.out 0
      have hfz9_1 := blk_frozen BK226.out 1
      have hfz9_2 := blk_frozen BK226.out 2
      have hfz9_3 := blk_frozen BK226.out 3
      go_wp2_with (first | ((with_reducible refine gate_callee (f := 80) rfl ?_); refine goesL_ (some 8) rfl rfl Tryd.func80 (by kernel_rfl) rfl #[.agg #[.int .i64 a0_0, .int .i64 a0_1, .bool a0_2, .bool a0_3]] rfl (by (try simp only [List.map_toArray, List.map_cons, List.map_nil]); first | done | rfl | (simp only [List.length_drop, List.length_take]; rfl)) ?_; (with_reducible refine (impl_GoodRef.calls a0_0 a0_1 a0_2 a0_3 true _ A6.out).mono ?_); rintro e w10 ⟨rfl, hb⟩; refine ⟨_, rfl, ?_⟩; have n0_ := Aside0.mk (blk_below (g := gb226) (o := .cells #[.int .i64 a0_0, .int .i64 a0_1, .bool a0_2, .bool a0_3] 50 (0, 0)) (by (with_reducible repeat (first | refine blk_drewN ?_ _ | refine blk_drew ?_ | refine blk_alloc ?_ _)); exact BK226.out) hb); have n1_ := Aside0.mk (below_step (by repeat (first | (with_reducible first | exact HB.out | apply below_alloc | apply pw_below_drewN | apply below_drew1 | refine below_set ?_ GE226.out) | exact HB.out)) hb); clear BK226; clear HB; have BK226 := n0_; have HB := n1_; clear n0_ n1_; (try clear hb); (try clear hb2); (try clear hk); (try clear hi)) | (go_at_call 82; (with_reducible refine (impl_place_good.calls a1 a2 t228 _ A8.out).mono ?_); rintro e w11 ⟨rfl, hb⟩; have n0_ := Aside0.mk (blk_below (g := gb226) (o := .cells #[.int .i64 a0_0, .int .i64 a0_1, .bool a0_2, .bool a0_3] 50 (0, 0)) (by (with_reducible repeat (first | refine blk_drewN ?_ _ | refine blk_drew ?_ | refine blk_alloc ?_ _)); exact BK226.out) hb); have n1_ := Aside0.mk (below_step (by repeat (first | (with_reducible first | exact HB.out | apply below_alloc | apply pw_below_drewN | apply below_drew1 | refine below_set ?_ GE226.out) | exact HB.out)) hb); clear BK226; clear HB; have BK226 := n0_; have HB := n1_; clear n0_ n1_; (try clear hb); (try clear hb2); (try clear hk); (try clear hi)))
      go_meet
      case rel => exact ⟨_, (!t228), (by first | rfl | (simp; done) | (simp [*]; done) | (simp; unfold wrap64; omega)), H', ⟨by first | omega | exact Nat.le_refl _⟩, ⟨by (with_reducible repeat (first | refine blk_drewN ?_ _ | refine blk_drew ?_ | refine blk_alloc ?_ _)); exact BK226.out⟩, ⟨by repeat (first | (with_reducible first | exact HB.out | apply below_alloc | apply pw_below_drewN | apply below_drew1 | refine below_set ?_ GE226.out) | exact HB.out)⟩⟩
    · replace c7 := Bool.eq_false_iff.mpr c7
      subst c7
      have H1 : (impl_RefTextBy.j0 k a1 a2 true a0_0 a0_1 a0_2 a0_3) = some r := by rw [if_neg (show ¬ (false = true) by decide)] at H; exact H
      clear H
      have H := H1
      clear H1
      have H' := Aside0.mk H
      clear H
      have hcz12_0 : w5.cell? ⟨gb226, 0, none⟩ = some (.int .i64 a0_0) := (blk_cell BK226.out 0).trans rfl
      have hcz12_1 : w5.cell? ⟨gb226, 1, none⟩ = some (.int .i64 a0_1) := (blk_cell BK226.out 1).trans rfl
      have hcz12_2 : w5.cell? ⟨gb226, 2, none⟩ = some (.bool a0_2) := (blk_cell BK226.out 2).trans rfl
      have hcz12_3 : w5.cell? ⟨gb226, 3, none⟩ = some (.bool a0_3) := (blk_cell BK226.out 3).trans rfl
      have hfz12_0 := blk_frozen BK226.out 0
      have hfz12_1 := blk_frozen BK226.out 1
      have hfz12_2 := blk_frozen BK226.out 2
      have hfz12_3 := blk_frozen BK226.out 3
      go_wp2_with (first | ((with_reducible refine gate_callee (f := 80) rfl ?_); refine goesL_ (some 8) rfl rfl Tryd.func80 (by kernel_rfl) rfl #[.agg #[.int .i64 a0_0, .int .i64 a0_1, .bool a0_2, .bool a0_3]] rfl (by (try simp only [List.map_toArray, List.map_cons, List.map_nil]); first | done | rfl | (simp only [List.length_drop, List.length_take]; rfl)) ?_; (with_reducible refine (impl_GoodRef.calls a0_0 a0_1 a0_2 a0_3 false _ A6.out).mono ?_); rintro e w13 ⟨rfl, hb⟩; refine ⟨_, rfl, ?_⟩; have n0_ := Aside0.mk (blk_below (g := gb226) (o := .cells #[.int .i64 a0_0, .int .i64 a0_1, .bool a0_2, .bool a0_3] 50 (0, 0)) (by (with_reducible repeat (first | refine blk_drewN ?_ _ | refine blk_drew ?_ | refine blk_alloc ?_ _)); exact BK226.out) hb); have n1_ := Aside0.mk (below_step (by repeat (first | (with_reducible first | exact HB.out | apply below_alloc | apply pw_below_drewN | apply below_drew1 | refine below_set ?_ GE226.out) | exact HB.out)) hb); clear BK226; clear HB; have BK226 := n0_; have HB := n1_; clear n0_ n1_; (try clear hb); (try clear hb2); (try clear hk); (try clear hi)))
      go_meet
      case rel => exact ⟨_, (true), (by first | rfl | (simp; done) | (simp [*]; done) | (simp; unfold wrap64; omega)), H', ⟨by first | omega | exact Nat.le_refl _⟩, ⟨by (with_reducible repeat (first | refine blk_drewN ?_ _ | refine blk_drew ?_ | refine blk_alloc ?_ _)); exact BK226.out⟩, ⟨by repeat (first | (with_reducible first | exact HB.out | apply below_alloc | apply pw_below_drewN | apply below_drew1 | refine below_set ?_ GE226.out) | exact HB.out)⟩⟩
  case rest =>
    clear HC4
    try clear p2
    try clear c3
    try clear c7
    try clear c8
    try clear hcz12_0
    try clear hcz12_1
    try clear hcz12_2
    try clear hcz12_3
    try clear hcz9_0
    try clear hcz9_1
    try clear hcz9_2
    try clear hcz9_3
    try clear hfz12_0
    try clear hfz12_1
    try clear hfz12_2
    try clear hfz12_3
    try clear hfz9_0
    try clear hfz9_1
    try clear hfz9_2
    try clear hfz9_3
    obtain ⟨kq, x16_3, rfl, HA, HJ3, BK226, HB⟩ := hcut
    cases kq with
    | zero => exact absurd HA.out (by simp [impl_RefTextBy.j0])
    | succ kj3 =>
      have H := HA.out
      clear HA
      simp only [impl_RefTextBy.j0] at H
      by_cases c14 : x16_3 = true
      · subst c14
        have H1 : (some (⟨#[]⟩ : ByteArray)) = some r := by rw [if_pos rfl] at H; exact H
        clear H
        have H := H1
        clear H1
        obtain rfl := Option.some.inj H
        go_wp2
        go_ret
        exact ⟨by first | rfl | (simp [errW_none, errW_some] <;> rfl) | (simp [*, errW_none, errW_some] <;> rfl), by repeat (first | (with_reducible first | exact HB.out | apply below_alloc | apply pw_below_drewN | apply below_drew1 | refine below_set ?_ GE226.out) | exact HB.out)⟩
      · replace c14 := Bool.eq_false_iff.mpr c14
        subst c14
        have H1 : ((impl_partBy.f (⟨#[82]⟩ : ByteArray) a0_0 a0_2 a1).bind fun t229 => ((impl_partBy.f (⟨#[67]⟩ : ByteArray) a0_1 a0_3 a2).bind fun t230 => (if t229.size + t230.size ≤ 9223372036854775807 then (some (t229 ++ t230)) else (none)))) = some r := by rw [if_neg (show ¬ (false = true) by decide)] at H; exact H
        clear H
        have H := H1
        clear H1
        replace H := Option.bind_eq_some_iff.mp H
        obtain ⟨t229, A150, H⟩ := H
        replace H : ((impl_partBy.f (⟨#[67]⟩ : ByteArray) a0_1 a0_3 a2).bind fun t230 => (if t229.size + t230.size ≤ 9223372036854775807 then (some (t229 ++ t230)) else (none))) = some r := H
        have A15 := Aside0.mk A150
        clear A150
        replace H := Option.bind_eq_some_iff.mp H
        obtain ⟨t230, A160, H⟩ := H
        replace H : (if t229.size + t230.size ≤ 9223372036854775807 then (some (t229 ++ t230)) else (none)) = some r := H
        have A16 := Aside0.mk A160
        clear A160
        by_cases c17 : t229.size + t230.size ≤ 9223372036854775807
        · rw [if_pos c17] at H
          have c17b0 := eq_true c17
          have c17b1 : decide (t229.size + t230.size ≤ 9223372036854775807) = true := decide_eq_true c17
          try have c17b2 : (9223372036854775807 < t229.size + t230.size) = False := eq_false (Nat.not_lt.2 c17)
          obtain rfl := Option.some.inj H
          try go_wp2
          have n0_ := Aside0.mk (blk_drew BK226.out)
          have n1_ := Aside0.mk (below_drew1 HB.out)
          clear BK226
          clear HB
          have BK226 := n0_
          have HB := n1_
          clear n0_ n1_
          refine start_ (n := 14) (S := fun w' => w'.cell? ⟨gb226, 0, none⟩ = some (.int .i64 a0_0) ∧ w'.cell? ⟨gb226, 1, none⟩ = some (.int .i64 a0_1) ∧ w'.cell? ⟨gb226, 2, none⟩ = some (.bool a0_2) ∧ w'.cell? ⟨gb226, 3, none⟩ = some (.bool a0_3)) (ds := []) bt3_0 (by kernel_rfl) rfl rfl ⟨(blk_cell BK226.out 0).trans rfl, (blk_cell BK226.out 1).trans rfl, (blk_cell BK226.out 2).trans rfl, (blk_cell BK226.out 3).trans rfl⟩ (fun hHeld => ?_); refine with_tabW impl_RefTextBy.tab3 impl_RefTextBy.bits3 (fun HT_ HW_ => ?_)
          generalize wc.drew = w18 at BK226 HB hHeld ⊢
          refine pure_ (i := 0) (N := some 17) (v := ?_) (a' := ?_) bt3_1 rfl rfl (any_of HT_.out (by kernel_rfl)) (fun _ _ _ h => h) (Or.inl ⟨by rfl, ?_⟩) ?_ ?_
          rotate_left
          · intro w'
            go_simp
            with_reducible rfl
          rotate_left
          · simp only [Act.put, List.setIfInBounds_toArray, List.set_cons_zero, List.set_cons_succ, i64_w, i32_w]
            rfl
          refine pure_ (i := 2) (N := some 19) (v := ?_) (a' := ?_) bt3_2 rfl rfl (any_of HT_.out (by kernel_rfl)) (fun _ _ _ h => h) (Or.inl ⟨by rfl, ?_⟩) ?_ ?_
          rotate_left
          · intro w'
            go_simp
            with_reducible rfl
          rotate_left
          · simp only [Act.put, List.setIfInBounds_toArray, List.set_cons_zero, List.set_cons_succ, i64_w, i32_w]
            rfl
          refine pure_ (i := 4) (N := some 21) (v := ?_) (a' := ?_) bt3_3 rfl rfl (any_of HT_.out (by kernel_rfl)) (fun _ _ _ h => h) (Or.inl ⟨by rfl, ?_⟩) ?_ ?_
          rotate_left
          · intro w'
            go_simp
            with_reducible rfl
          rotate_left
          · simp only [Act.put, List.setIfInBounds_toArray, List.set_cons_zero, List.set_cons_succ, i64_w, i32_w]
            rfl
          refine pure_ (i := 6) (N := some 23) (v := ?_) (a' := ?_) bt3_4 rfl rfl (any_of HT_.out (by kernel_rfl)) (fun _ _ _ h => h) (Or.inl ⟨by rfl, ?_⟩) ?_ ?_
          rotate_left
          · intro w'
            go_simp
            with_reducible rfl
          rotate_left
          · simp only [Act.put, List.setIfInBounds_toArray, List.set_cons_zero, List.set_cons_succ, i64_w, i32_w]
            rfl
          refine pure_ (i := 8) (N := some 25) (v := ?_) (a' := ?_) bt3_5 rfl rfl (any_of HT_.out (by kernel_rfl)) (fun _ _ _ h => h) (Or.inl ⟨by rfl, ?_⟩) ?_ ?_
          rotate_left
          · intro w'
            go_simp
            with_reducible rfl
          rotate_left
          · simp only [Act.put, List.setIfInBounds_toArray, List.set_cons_zero, List.set_cons_succ, i64_w, i32_w]
            rfl
          refine pure_ (i := 10) (N := some 27) (v := ?_) (a' := ?_) bt3_6 rfl rfl (any_of HT_.out (by kernel_rfl)) (fun _ _ _ h => h) (Or.inl ⟨by rfl, ?_⟩) ?_ ?_
          rotate_left
          · intro w'
            go_simp
            with_reducible rfl
          rotate_left
          · simp only [Act.put, List.setIfInBounds_toArray, List.set_cons_zero, List.set_cons_succ, i64_w, i32_w]
            rfl
          refine take_ (i := 1) (N := some 18) (v := ?_) (a' := ?_) bt3_7 rfl rfl (take_ofW HT_.out HW_.out (by kernel_rfl)) (fun _ _ _ h => h) (Or.inl ⟨by rfl, ?_⟩) hHeld ?_ ?_
          rotate_left
          · rintro w' ⟨s0, s1, s2, s3⟩
            go_simp
            with_reducible rfl
          rotate_left
          · simp only [Act.put, List.setIfInBounds_toArray, List.set_cons_zero, List.set_cons_succ, i64_w, i32_w]
            rfl
          refine take_ (i := 3) (N := some 20) (v := ?_) (a' := ?_) bt3_8 rfl rfl (take_ofW HT_.out HW_.out (by kernel_rfl)) (fun _ _ _ h => h) (Or.inl ⟨by rfl, ?_⟩) hHeld ?_ ?_
          rotate_left
          · rintro w' ⟨s0, s1, s2, s3⟩
            go_simp
            with_reducible rfl
          rotate_left
          · simp only [Act.put, List.setIfInBounds_toArray, List.set_cons_zero, List.set_cons_succ, i64_w, i32_w]
            rfl
          refine take_ (i := 7) (N := some 24) (v := ?_) (a' := ?_) bt3_9 rfl rfl (take_ofW HT_.out HW_.out (by kernel_rfl)) (fun _ _ _ h => h) (Or.inl ⟨by rfl, ?_⟩) hHeld ?_ ?_
          rotate_left
          · rintro w' ⟨s0, s1, s2, s3⟩
            go_simp
            with_reducible rfl
          rotate_left
          · simp only [Act.put, List.setIfInBounds_toArray, List.set_cons_zero, List.set_cons_succ, i64_w, i32_w]
            rfl
          refine take_ (i := 9) (N := some 26) (v := ?_) (a' := ?_) bt3_10 rfl rfl (take_ofW HT_.out HW_.out (by kernel_rfl)) (fun _ _ _ h => h) (Or.inl ⟨by rfl, ?_⟩) hHeld ?_ ?_
          rotate_left
          · rintro w' ⟨s0, s1, s2, s3⟩
            go_simp
            with_reducible rfl
          rotate_left
          · simp only [Act.put, List.setIfInBounds_toArray, List.set_cons_zero, List.set_cons_succ, i64_w, i32_w]
            rfl
          refine one_ (i := 5) (N := some 22) bt3_11 rfl rfl (one_of HT_.out (by kernel_rfl)) (by decide) (fun K hK => ?_)
          refine goes_ Tryd.func83 (by kernel_rfl) rfl #[.string (⟨#[82]⟩ : ByteArray), .int .i64 a0_0, .bool a0_2, .int .i64 a1] (by rfl) rfl rfl (by (try simp only [List.map_toArray, List.map_cons, List.map_nil]); first | done | rfl | (simp only [List.length_drop, List.length_take]; rfl)) ?_
          with_reducible refine (impl_partBy.calls (⟨#[82]⟩ : ByteArray) a0_0 a0_2 a1 t229 _ (hT.below (by repeat (first | exact HB.out | exact Below.refl _ _ | apply below_alloc | apply pw_below_drewN | apply below_drew1 | refine below_set ?_ GE226.out))) A15.out).mono ?_
          rintro e w19 ⟨rfl, hb⟩
          refine ⟨_, rfl, ?_⟩
          have n0_ := Aside0.mk (blk_below (g := gb226) (o := .cells #[.int .i64 a0_0, .int .i64 a0_1, .bool a0_2, .bool a0_3] 50 (0, 0)) (by (with_reducible repeat (first | refine blk_drewN ?_ _ | refine blk_drew ?_ | refine blk_alloc ?_ _)); exact BK226.out) hb)
          have n1_ := Aside0.mk (below_step (by repeat (first | (with_reducible first | exact HB.out | apply below_alloc | apply pw_below_drewN | apply below_drew1 | refine below_set ?_ GE226.out) | exact HB.out)) hb)
          clear BK226
          clear HB
          have BK226 := n0_
          have HB := n1_
          clear n0_ n1_
          (try clear hb)
          (try clear hb2)
          (try clear hk)
          (try clear hi)
          refine hK.out _ _ ⟨(blk_cell BK226.out 0).trans rfl, (blk_cell BK226.out 1).trans rfl, (blk_cell BK226.out 2).trans rfl, (blk_cell BK226.out 3).trans rfl⟩ (fun hHeld => ?_)
          clear hK K
          refine norm_ (a' := ?_) ?_ ?_
          rotate_left
          · show Act.put _ (some 22) _ = _
            simp only [Act.put, List.setIfInBounds_toArray, List.set_cons_zero, List.set_cons_succ, i64_w, i32_w]
            rfl
          refine one_ (i := 11) (N := some 28) bt3_12 rfl rfl (one_of HT_.out (by kernel_rfl)) (by decide) (fun K hK => ?_)
          refine goes_ Tryd.func83 (by kernel_rfl) rfl #[.string (⟨#[67]⟩ : ByteArray), .int .i64 a0_1, .bool a0_3, .int .i64 a2] (by rfl) rfl rfl (by (try simp only [List.map_toArray, List.map_cons, List.map_nil]); first | done | rfl | (simp only [List.length_drop, List.length_take]; rfl)) ?_
          with_reducible refine (impl_partBy.calls (⟨#[67]⟩ : ByteArray) a0_1 a0_3 a2 t230 _ (hT.below (by repeat (first | exact HB.out | exact Below.refl _ _ | apply below_alloc | apply pw_below_drewN | apply below_drew1 | refine below_set ?_ GE226.out))) A16.out).mono ?_
          rintro e w20 ⟨rfl, hb⟩
          refine ⟨_, rfl, ?_⟩
          have n0_ := Aside0.mk (blk_below (g := gb226) (o := .cells #[.int .i64 a0_0, .int .i64 a0_1, .bool a0_2, .bool a0_3] 50 (0, 0)) (by (with_reducible repeat (first | refine blk_drewN ?_ _ | refine blk_drew ?_ | refine blk_alloc ?_ _)); exact BK226.out) hb)
          have n1_ := Aside0.mk (below_step (by repeat (first | (with_reducible first | exact HB.out | apply below_alloc | apply pw_below_drewN | apply below_drew1 | refine below_set ?_ GE226.out) | exact HB.out)) hb)
          clear BK226
          clear HB
          have BK226 := n0_
          have HB := n1_
          clear n0_ n1_
          (try clear hb)
          (try clear hb2)
          (try clear hk)
          (try clear hi)
          refine hK.out _ _ ⟨(blk_cell BK226.out 0).trans rfl, (blk_cell BK226.out 1).trans rfl, (blk_cell BK226.out 2).trans rfl, (blk_cell BK226.out 3).trans rfl⟩ (fun hHeld => ?_)
          clear hK K
          refine norm_ (a' := ?_) ?_ ?_
          rotate_left
          · show Act.put _ (some 28) _ = _
            simp only [Act.put, List.setIfInBounds_toArray, List.set_cons_zero, List.set_cons_succ, i64_w, i32_w]
            rfl
          refine pure_ (i := 12) (N := some 29) (v := ?_) (a' := ?_) bt3_13 rfl rfl (any_of HT_.out (by kernel_rfl)) (fun _ _ _ h => h) (Or.inl ⟨by rfl, ?_⟩) ?_ ?_
          rotate_left
          · intro w'
            go_simp
            with_reducible rfl
          rotate_left
          · simp only [Act.put, List.setIfInBounds_toArray, List.set_cons_zero, List.set_cons_succ, i64_w, i32_w]
            rfl
          refine pure_ (i := 13) (N := some 6) (v := ?_) (a' := ?_) bt3_14 rfl rfl (any_of HT_.out (by kernel_rfl)) (fun _ _ _ h => h) (Or.inl ⟨by rfl, ?_⟩) ?_ ?_
          rotate_left
          · intro w'
            go_simp
            with_reducible rfl
          rotate_left
          · simp only [Act.put, List.setIfInBounds_toArray, List.set_cons_zero, List.set_cons_succ, i64_w, i32_w]
            rfl
          refine done_ (done_of HT_.out (by kernel_rfl)) ?_
          try go_wp2
          go_ret
          exact ⟨by first | rfl | (simp [errW_none, errW_some] <;> rfl) | (simp [*, errW_none, errW_some] <;> rfl), by repeat (first | (with_reducible first | exact HB.out | apply below_alloc | apply pw_below_drewN | apply below_drew1 | refine below_set ?_ GE226.out) | exact HB.out)⟩
        · rw [if_neg c17] at H
          exact absurd H (by simp)



/-! ### spec_GoodRef: function 84 -/

def spec_GoodRef.f (a0_0 : Int) (a0_1 : Int) (a0_2 : Bool) (a0_3 : Bool) : Option (Bool) := if a0_0 ≥ 1 then (if a0_0 ≤ 1000 then (if a0_1 ≥ 1 then (some (decide (a0_1 ≤ 200))) else (some false)) else (some false)) else (some false)

set_option maxHeartbeats 8000000 in
set_option maxRecDepth 100000 in
theorem spec_GoodRef.calls (a0_0 : Int) (a0_1 : Int) (a0_2 : Bool) (a0_3 : Bool) (r : Bool) (w : World) (h : spec_GoodRef.f a0_0 a0_1 a0_2 a0_3 = some r) :
    Calls Tryd.prog 84 #[.agg #[.int .i64 a0_0, .int .i64 a0_1, .bool a0_2, .bool a0_3]] w fun e w' => e = .returned (.bool r) ∧ Below w.heap.size w w' := by
  have hu50 := Tryd.underlying50
  have HB := Aside0.mk (Below.refl w.heap.size w)
  have H : (if a0_0 ≥ 1 then (if a0_0 ≤ 1000 then (if a0_1 ≥ 1 then (some (decide (a0_1 ≤ 200))) else (some false)) else (some false)) else (some false)) = some r := h
  clear h
  by_cases c2 : a0_0 ≥ 1
  · rw [if_pos c2] at H
    have c2b0 : decide (1 ≤ a0_0) = true := decide_eq_true c2
    clear c2
    by_cases c3 : a0_0 ≤ 1000
    · rw [if_pos c3] at H
      have c3b0 : decide (a0_0 ≤ 1000) = true := decide_eq_true c3
      clear c3
      by_cases c4 : a0_1 ≥ 1
      · rw [if_pos c4] at H
        have c4b0 : decide (1 ≤ a0_1) = true := decide_eq_true c4
        clear c4
        obtain rfl := Option.some.inj H
        go_enter Tryd.func84, Tryd.ntmps84
        go_wp2_with (first | ((with_reducible refine gate_dst (N := 1) rfl ?_); refine box_event ?hg (N := 1) ?hd (cs := #[.int .i64 a0_0, .int .i64 a0_1, .bool a0_2, .bool a0_3]) (t := 50) ?hr ?_; (case hd => rfl); (case hg => rfl); (case hr => first | (go_simp; done) | (go_simp; rfl)); intro gb231 hg w5 hbox hb; have n0_ := Aside0.mk (below_step (by repeat (first | (with_reducible first | exact HB.out | apply below_alloc | apply pw_below_drewN | apply below_drew1) | exact HB.out)) hb); have n1_ := Aside0.mk (hbox); have n2_ := Aside0.mk ((by rw [hg]; exact (below_size (by repeat (first | (with_reducible first | exact HB.out | apply below_alloc | apply pw_below_drewN | apply below_drew1) | exact HB.out))) : w.heap.size ≤ gb231)); have n3_ := Aside0.mk ((by rw [hg]; exact (below_size (by repeat (first | (with_reducible first | exact HB.out | apply below_alloc | apply pw_below_drewN | apply below_drew1) | exact HB.out))) : w.heap.size ≤ gb231)); clear HB; have HB := n0_; have BK231 := n1_; have GW231 := n2_; have GE231 := n3_; clear n0_ n1_ n2_ n3_; clear hb hbox hg; have hcz6_0 : w5.cell? ⟨gb231, 0, none⟩ = some (.int .i64 a0_0) := (blk_cell BK231.out 0).trans rfl; have hcz6_1 : w5.cell? ⟨gb231, 1, none⟩ = some (.int .i64 a0_1) := (blk_cell BK231.out 1).trans rfl; have hcz6_2 : w5.cell? ⟨gb231, 2, none⟩ = some (.bool a0_2) := (blk_cell BK231.out 2).trans rfl; have hcz6_3 : w5.cell? ⟨gb231, 3, none⟩ = some (.bool a0_3) := (blk_cell BK231.out 3).trans rfl; have hfz6_0 := blk_frozen BK231.out 0; have hfz6_1 := blk_frozen BK231.out 1; have hfz6_2 := blk_frozen BK231.out 2; have hfz6_3 := blk_frozen BK231.out 3))
        go_ret
        exact ⟨by first | rfl | (simp [errW_none, errW_some] <;> rfl) | (simp [*, errW_none, errW_some] <;> rfl), by repeat (first | (with_reducible first | exact HB.out | apply below_alloc | apply pw_below_drewN | apply below_drew1 | refine below_set ?_ GE231.out) | exact HB.out)⟩
      · rw [if_neg c4] at H
        have c4b0 : decide (1 ≤ a0_1) = false := decide_eq_false c4
        clear c4
        obtain rfl := Option.some.inj H
        go_enter Tryd.func84, Tryd.ntmps84
        go_wp2_with (first | ((with_reducible refine gate_dst (N := 1) rfl ?_); refine box_event ?hg (N := 1) ?hd (cs := #[.int .i64 a0_0, .int .i64 a0_1, .bool a0_2, .bool a0_3]) (t := 50) ?hr ?_; (case hd => rfl); (case hg => rfl); (case hr => first | (go_simp; done) | (go_simp; rfl)); intro gb231 hg w7 hbox hb; have n0_ := Aside0.mk (below_step (by repeat (first | (with_reducible first | exact HB.out | apply below_alloc | apply pw_below_drewN | apply below_drew1) | exact HB.out)) hb); have n1_ := Aside0.mk (hbox); have n2_ := Aside0.mk ((by rw [hg]; exact (below_size (by repeat (first | (with_reducible first | exact HB.out | apply below_alloc | apply pw_below_drewN | apply below_drew1) | exact HB.out))) : w.heap.size ≤ gb231)); have n3_ := Aside0.mk ((by rw [hg]; exact (below_size (by repeat (first | (with_reducible first | exact HB.out | apply below_alloc | apply pw_below_drewN | apply below_drew1) | exact HB.out))) : w.heap.size ≤ gb231)); clear HB; have HB := n0_; have BK231 := n1_; have GW231 := n2_; have GE231 := n3_; clear n0_ n1_ n2_ n3_; clear hb hbox hg; have hcz8_0 : w7.cell? ⟨gb231, 0, none⟩ = some (.int .i64 a0_0) := (blk_cell BK231.out 0).trans rfl; have hcz8_1 : w7.cell? ⟨gb231, 1, none⟩ = some (.int .i64 a0_1) := (blk_cell BK231.out 1).trans rfl; have hcz8_2 : w7.cell? ⟨gb231, 2, none⟩ = some (.bool a0_2) := (blk_cell BK231.out 2).trans rfl; have hcz8_3 : w7.cell? ⟨gb231, 3, none⟩ = some (.bool a0_3) := (blk_cell BK231.out 3).trans rfl; have hfz8_0 := blk_frozen BK231.out 0; have hfz8_1 := blk_frozen BK231.out 1; have hfz8_2 := blk_frozen BK231.out 2; have hfz8_3 := blk_frozen BK231.out 3))
        go_ret
        exact ⟨by first | rfl | (simp [errW_none, errW_some] <;> rfl) | (simp [*, errW_none, errW_some] <;> rfl), by repeat (first | (with_reducible first | exact HB.out | apply below_alloc | apply pw_below_drewN | apply below_drew1 | refine below_set ?_ GE231.out) | exact HB.out)⟩
    · rw [if_neg c3] at H
      have c3b0 : decide (a0_0 ≤ 1000) = false := decide_eq_false c3
      clear c3
      obtain rfl := Option.some.inj H
      go_enter Tryd.func84, Tryd.ntmps84
      go_wp2_with (first | ((with_reducible refine gate_dst (N := 1) rfl ?_); refine box_event ?hg (N := 1) ?hd (cs := #[.int .i64 a0_0, .int .i64 a0_1, .bool a0_2, .bool a0_3]) (t := 50) ?hr ?_; (case hd => rfl); (case hg => rfl); (case hr => first | (go_simp; done) | (go_simp; rfl)); intro gb231 hg w9 hbox hb; have n0_ := Aside0.mk (below_step (by repeat (first | (with_reducible first | exact HB.out | apply below_alloc | apply pw_below_drewN | apply below_drew1) | exact HB.out)) hb); have n1_ := Aside0.mk (hbox); have n2_ := Aside0.mk ((by rw [hg]; exact (below_size (by repeat (first | (with_reducible first | exact HB.out | apply below_alloc | apply pw_below_drewN | apply below_drew1) | exact HB.out))) : w.heap.size ≤ gb231)); have n3_ := Aside0.mk ((by rw [hg]; exact (below_size (by repeat (first | (with_reducible first | exact HB.out | apply below_alloc | apply pw_below_drewN | apply below_drew1) | exact HB.out))) : w.heap.size ≤ gb231)); clear HB; have HB := n0_; have BK231 := n1_; have GW231 := n2_; have GE231 := n3_; clear n0_ n1_ n2_ n3_; clear hb hbox hg; have hcz10_0 : w9.cell? ⟨gb231, 0, none⟩ = some (.int .i64 a0_0) := (blk_cell BK231.out 0).trans rfl; have hcz10_1 : w9.cell? ⟨gb231, 1, none⟩ = some (.int .i64 a0_1) := (blk_cell BK231.out 1).trans rfl; have hcz10_2 : w9.cell? ⟨gb231, 2, none⟩ = some (.bool a0_2) := (blk_cell BK231.out 2).trans rfl; have hcz10_3 : w9.cell? ⟨gb231, 3, none⟩ = some (.bool a0_3) := (blk_cell BK231.out 3).trans rfl; have hfz10_0 := blk_frozen BK231.out 0; have hfz10_1 := blk_frozen BK231.out 1; have hfz10_2 := blk_frozen BK231.out 2; have hfz10_3 := blk_frozen BK231.out 3))
      go_ret
      exact ⟨by first | rfl | (simp [errW_none, errW_some] <;> rfl) | (simp [*, errW_none, errW_some] <;> rfl), by repeat (first | (with_reducible first | exact HB.out | apply below_alloc | apply pw_below_drewN | apply below_drew1 | refine below_set ?_ GE231.out) | exact HB.out)⟩
  · rw [if_neg c2] at H
    have c2b0 : decide (1 ≤ a0_0) = false := decide_eq_false c2
    clear c2
    obtain rfl := Option.some.inj H
    go_enter Tryd.func84, Tryd.ntmps84
    go_wp2_with (first | ((with_reducible refine gate_dst (N := 1) rfl ?_); refine box_event ?hg (N := 1) ?hd (cs := #[.int .i64 a0_0, .int .i64 a0_1, .bool a0_2, .bool a0_3]) (t := 50) ?hr ?_; (case hd => rfl); (case hg => rfl); (case hr => first | (go_simp; done) | (go_simp; rfl)); intro gb231 hg w11 hbox hb; have n0_ := Aside0.mk (below_step (by repeat (first | (with_reducible first | exact HB.out | apply below_alloc | apply pw_below_drewN | apply below_drew1) | exact HB.out)) hb); have n1_ := Aside0.mk (hbox); have n2_ := Aside0.mk ((by rw [hg]; exact (below_size (by repeat (first | (with_reducible first | exact HB.out | apply below_alloc | apply pw_below_drewN | apply below_drew1) | exact HB.out))) : w.heap.size ≤ gb231)); have n3_ := Aside0.mk ((by rw [hg]; exact (below_size (by repeat (first | (with_reducible first | exact HB.out | apply below_alloc | apply pw_below_drewN | apply below_drew1) | exact HB.out))) : w.heap.size ≤ gb231)); clear HB; have HB := n0_; have BK231 := n1_; have GW231 := n2_; have GE231 := n3_; clear n0_ n1_ n2_ n3_; clear hb hbox hg; have hcz12_0 : w11.cell? ⟨gb231, 0, none⟩ = some (.int .i64 a0_0) := (blk_cell BK231.out 0).trans rfl; have hcz12_1 : w11.cell? ⟨gb231, 1, none⟩ = some (.int .i64 a0_1) := (blk_cell BK231.out 1).trans rfl; have hcz12_2 : w11.cell? ⟨gb231, 2, none⟩ = some (.bool a0_2) := (blk_cell BK231.out 2).trans rfl; have hcz12_3 : w11.cell? ⟨gb231, 3, none⟩ = some (.bool a0_3) := (blk_cell BK231.out 3).trans rfl; have hfz12_0 := blk_frozen BK231.out 0; have hfz12_1 := blk_frozen BK231.out 1; have hfz12_2 := blk_frozen BK231.out 2; have hfz12_3 := blk_frozen BK231.out 3))
    go_ret
    exact ⟨by first | rfl | (simp [errW_none, errW_some] <;> rfl) | (simp [*, errW_none, errW_some] <;> rfl), by repeat (first | (with_reducible first | exact HB.out | apply below_alloc | apply pw_below_drewN | apply below_drew1 | refine below_set ?_ GE231.out) | exact HB.out)⟩



/-! ### spec_l3Fix: function 85 -/

def spec_l3Fix.f (a0 : Bool) : Option (ByteArray) := if a0 = true then (some (⟨#[36]⟩ : ByteArray)) else (some (⟨#[]⟩ : ByteArray))

set_option maxHeartbeats 8000000 in
set_option maxRecDepth 100000 in
theorem spec_l3Fix.calls (a0 : Bool) (r : ByteArray) (w : World) (h : spec_l3Fix.f a0 = some r) :
    Calls Tryd.prog 85 #[.bool a0] w fun e w' => e = .returned (.string r) ∧ Drawn0 w w' := by
  have H : (if a0 = true then (some (⟨#[36]⟩ : ByteArray)) else (some (⟨#[]⟩ : ByteArray))) = some r := h
  clear h
  by_cases c2 : a0 = true
  · subst c2
    have H1 : (some (⟨#[36]⟩ : ByteArray)) = some r := by rw [if_pos rfl] at H; exact H
    clear H
    have H := H1
    clear H1
    obtain rfl := Option.some.inj H
    go_enter Tryd.func85, Tryd.ntmps85
    go_wp2
    go_ret
    exact ⟨by first | rfl | (simp; done) | (simp [*]; done), by repeat (first | exact Drawn0.refl _ | apply Drawn0.step)⟩
  · replace c2 := Bool.eq_false_iff.mpr c2
    subst c2
    have H1 : (some (⟨#[]⟩ : ByteArray)) = some r := by rw [if_neg (show ¬ (false = true) by decide)] at H; exact H
    clear H
    have H := H1
    clear H1
    obtain rfl := Option.some.inj H
    go_enter Tryd.func85, Tryd.ntmps85
    go_wp2
    go_ret
    exact ⟨by first | rfl | (simp; done) | (simp [*]; done), by repeat (first | exact Drawn0.refl _ | apply Drawn0.step)⟩



/-! ### spec_ColName: function 86 -/

mutual
def spec_ColName.j0 : Nat → Int → Bool → Option (ByteArray)
  | 0, _, _ => none
  | k + 1, x0, x9 => if x9 = true then (some (⟨#[]⟩ : ByteArray)) else (spec_ColName.l0 k x0 (⟨#[]⟩ : ByteArray))
def spec_ColName.l0 : Nat → Int → ByteArray → Option (ByteArray)
  | 0, _, _ => none
  | k + 1, x0, x3 => if x0 > 0 then ((some (([(wrap64 (65 + (Int.tmod (wrap64 (x0 - 1)) 26))) % 256] : List Int) : List Int)).bind fun y232 => (if (strOfNums y232).size + x3.size ≤ 9223372036854775807 then (spec_ColName.l0 k (wrap64 (Int.tdiv (wrap64 (x0 - 1)) 26)) ((strOfNums y232) ++ x3)) else (none))) else (some x3)
end

def spec_ColName.f (k : Nat) (a0 : Int) : Option (ByteArray) := if a0 < 1 then (spec_ColName.j0 k a0 true) else (spec_ColName.j0 k a0 (decide (a0 > 200)))

theorem spec_ColName.mono_l : ∀ k, (∀ y0 y1, LeO (spec_ColName.j0 k y0 y1) (spec_ColName.j0 (k + 1) y0 y1)) ∧ (∀ y0 y1, LeO (spec_ColName.l0 k y0 y1) (spec_ColName.l0 (k + 1) y0 y1))
  | 0 => ⟨fun _ _ r h => by simp [spec_ColName.j0] at h, fun _ _ r h => by simp [spec_ColName.l0] at h⟩
  | k + 1 => by
    obtain ⟨ih0, ih1⟩ := spec_ColName.mono_l k
    refine ⟨?_, ?_⟩
    · intro y0 y1
      unfold spec_ColName.j0
      repeat' first
      | (with_reducible exact ih0 _ _)
      | (with_reducible exact ih1 _ _)
      | (with_reducible exact LeO.refl _)
      | (with_reducible exact LeO.none _)
      | (with_reducible refine LeO.ite ?_ ?_)
      | (with_reducible refine LeO.bind ?_ (fun _ => ?_))
      | exact ih0 _ _
      | exact ih1 _ _
      | exact LeO.none _
      | refine LeO.ite ?_ ?_
      | refine LeO.bind ?_ (fun _ => ?_)
    · intro y0 y1
      unfold spec_ColName.l0
      repeat' first
      | (with_reducible exact ih0 _ _)
      | (with_reducible exact ih1 _ _)
      | (with_reducible exact LeO.refl _)
      | (with_reducible exact LeO.none _)
      | (with_reducible refine LeO.ite ?_ ?_)
      | (with_reducible refine LeO.bind ?_ (fun _ => ?_))
      | exact ih0 _ _
      | exact ih1 _ _
      | exact LeO.none _
      | refine LeO.ite ?_ ?_
      | refine LeO.bind ?_ (fun _ => ?_)

theorem spec_ColName.mono : ∀ a0 k, LeO (spec_ColName.f k a0) (spec_ColName.f (k + 1) a0) := by
  intro a0 k
  obtain ⟨ih0, ih1⟩ := spec_ColName.mono_l k
  unfold spec_ColName.f
  repeat' first
      | (with_reducible exact ih0 _ _)
      | (with_reducible exact ih1 _ _)
      | (with_reducible exact LeO.refl _)
      | (with_reducible exact LeO.none _)
      | (with_reducible refine LeO.ite ?_ ?_)
      | (with_reducible refine LeO.bind ?_ (fun _ => ?_))
      | exact ih0 _ _
      | exact ih1 _ _
      | exact LeO.none _
      | refine LeO.ite ?_ ?_
      | refine LeO.bind ?_ (fun _ => ?_)

set_option maxHeartbeats 8000000 in
set_option maxRecDepth 100000 in
theorem spec_ColName.calls (k : Nat) (a0 : Int) (r : ByteArray) (w : World) (h : spec_ColName.f k a0 = some r) :
    Calls Tryd.prog 86 #[.int .i64 a0] w fun e w' => e = .returned (.string r) ∧ Below w.heap.size w w' := by
  have HB := Aside0.mk (Below.refl w.heap.size w)
  have H : (if a0 < 1 then (spec_ColName.j0 k a0 true) else (spec_ColName.j0 k a0 (decide (a0 > 200)))) = some r := h
  clear h
  have HC2 := Aside0.mk H
  clear H
  go_enter Tryd.func86, Tryd.ntmps86
  go_upto_region 1 with (fail)
  go_cut [9] (fun v9 wc => ∃ (kq : Nat) (x9_1 : Bool), v9 = .bool x9_1 ∧ Aside0 (spec_ColName.j0 kq a0 x9_1 = some r) ∧ Aside0 (kq ≤ k) ∧ Aside0 (Below w.heap.size w wc))
  case first =>
    have H := HC2.out
    clear HC2
    by_cases c3 : a0 < 1
    · rw [if_pos c3] at H
      have c3b0 : decide (a0 < 1) = true := decide_eq_true c3
      clear c3
      (first | rw [c3b0] | (simp only [i64_w, i32_w]; rw [c3b0]) | skip)
      have H' := Aside0.mk H
      clear H
      go_wp2
      go_meet
      case rel => exact ⟨_, (true), (by first | rfl | (simp; done) | (simp [*]; done) | (simp; unfold wrap64; omega)), H', ⟨by first | omega | exact Nat.le_refl _⟩, ⟨by repeat (first | (with_reducible first | exact HB.out | apply below_alloc | apply pw_below_drewN | apply below_drew1) | exact HB.out)⟩⟩
    · rw [if_neg c3] at H
      have c3b0 : decide (a0 < 1) = false := decide_eq_false c3
      clear c3
      (first | rw [c3b0] | (simp only [i64_w, i32_w]; rw [c3b0]) | skip)
      have H' := Aside0.mk H
      clear H
      go_wp2
      go_meet
      case rel => exact ⟨_, (decide (a0 > 200)), (by first | rfl | (simp; done) | (simp [*]; done) | (simp; unfold wrap64; omega)), H', ⟨by first | omega | exact Nat.le_refl _⟩, ⟨by repeat (first | (with_reducible first | exact HB.out | apply below_alloc | apply pw_below_drewN | apply below_drew1) | exact HB.out)⟩⟩
  case rest =>
    clear HC2
    try clear p2
    try clear c3
    try clear c3b0
    obtain ⟨kq, x9_1, rfl, HA, HJ1, HB⟩ := hcut
    cases kq with
    | zero => exact absurd HA.out (by simp [spec_ColName.j0])
    | succ kj1 =>
      have H := HA.out
      clear HA
      simp only [spec_ColName.j0] at H
      by_cases c4 : x9_1 = true
      · subst c4
        have H1 : (some (⟨#[]⟩ : ByteArray)) = some r := by rw [if_pos rfl] at H; exact H
        clear H
        have H := H1
        clear H1
        obtain rfl := Option.some.inj H
        go_wp2
        go_ret
        exact ⟨by first | rfl | (simp [errW_none, errW_some] <;> rfl) | (simp [*, errW_none, errW_some] <;> rfl), by repeat (first | (with_reducible first | exact HB.out | apply below_alloc | apply pw_below_drewN | apply below_drew1) | exact HB.out)⟩
      · replace c4 := Bool.eq_false_iff.mpr c4
        subst c4
        have H1 : (spec_ColName.l0 kj1 a0 (⟨#[]⟩ : ByteArray)) = some r := by rw [if_neg (show ¬ (false = true) by decide)] at H; exact H
        clear H
        have H := H1
        clear H1
        have H' := Aside0.mk H
        clear H
        go_wp2
        go_loopg [0, 3] kj1 (fun kq v0 v3 w' => ∃ (x0_2 : Int) (x3_2 : ByteArray), v0 = .int .i64 x0_2 ∧ v3 = .string x3_2 ∧ Aside0 (spec_ColName.l0 kq x0_2 x3_2 = some r) ∧ Aside0 (kq ≤ kj1) ∧ Aside0 (Below w.heap.size w w'))
        case atStart => exact ⟨(a0), ((⟨#[]⟩ : ByteArray)), (by first | rfl | (simp; done) | (simp [*]; done) | (simp; unfold wrap64; omega)), (by first | rfl | (simp; done) | (simp [*]; done) | (simp; unfold wrap64; omega)), H', ⟨Nat.le_refl _⟩, ⟨by repeat (first | (with_reducible first | exact HB.out | apply below_alloc | apply pw_below_drewN | apply below_drew1) | exact HB.out)⟩⟩
        case round =>
          clear H'
          try clear p2
          try clear c3
          try clear c3b0
          try clear c4
          try clear p2
          obtain ⟨x0_2, x3_2, rfl, rfl, HA, HK2, HB⟩ := hrel
          cases gk with
          | zero => exact absurd HA.out (by simp [spec_ColName.l0])
          | succ k2 =>
            have H := HA.out
            clear HA
            simp only [spec_ColName.l0] at H
            by_cases c5 : x0_2 > 0
            · rw [if_pos c5] at H
              have c5b0 : decide (0 < x0_2) = true := decide_eq_true c5
              clear c5
              obtain ⟨y232, hy232⟩ : ∃ y_ : List Int, y_ = (([(wrap64 (65 + (Int.tmod (wrap64 (x0_2 - 1)) 26))) % 256] : List Int)) := ⟨_, rfl⟩
              replace H : (if (strOfNums y232).size + x3_2.size ≤ 9223372036854775807 then (spec_ColName.l0 k2 (wrap64 (Int.tdiv (wrap64 (x0_2 - 1)) 26)) ((strOfNums y232) ++ x3_2)) else (none)) = some r := by first | (rw [hy232]; with_reducible exact H) | (have H2_ := (Option.bind_some _ _).symm.trans H; rw [hy232]; with_reducible exact H2_) | (have H2_ := (Option.bind_some _ _).symm.trans H; with_reducible exact H2_) | with_reducible exact H | (rw [hy232]; exact H) | exact H
              have Ny232 := Aside0.mk hy232
              clear hy232
              by_cases c6 : (strOfNums y232).size + x3_2.size ≤ 9223372036854775807
              · rw [if_pos c6] at H
                have c6b0 := eq_true c6
                have c6b1 : decide ((strOfNums y232).size + x3_2.size ≤ 9223372036854775807) = true := decide_eq_true c6
                try have c6b2 : (9223372036854775807 < (strOfNums y232).size + x3_2.size) = False := eq_false (Nat.not_lt.2 c6)
                have H' := Aside0.mk H
                clear H
                go_wp2_with (first | ((with_reducible refine gate_dst (N := 18) rfl ?_); refine Kd.R_lit (Kd.int .u8) _ 5 ?hg (N := 18) ?hd (xs := ([(wrap64 (65 + (Int.tmod (wrap64 (x0_2 - 1)) 26))) % 256] : List Int)) (inner := [.int .u8 ((wrap64 (65 + (Int.tmod (wrap64 (x0_2 - 1)) 26))) % 256)]) (ok := fun _ => True) (okp := fun _ => True) ?hr ?hp (fun _ hk => hk) trivial (Below.refl _ _) (Nat.le_refl _) (by simp) ?_; (case hd => rfl); (case hg => rfl); (case hr => first | (go_simp; done) | (go_simp; rfl)); (case hp => exact (Reps.one (show Kd.M (Kd.int .u8) _ _ _ ((wrap64 (65 + (Int.tmod (wrap64 (x0_2 - 1)) 26))) % 256) [.int .u8 ((wrap64 (65 + (Int.tmod (wrap64 (x0_2 - 1)) 26))) % 256)] from rfl) (Reps.none _ _))); intro v233 w7 ho8 hb hg_ hnew_; clear hg_ hnew_; (first | rw [← Ny232.out] at ho8 | (simp only [Int.reduceToNat] at ho8; rw [← Ny232.out] at ho8)); have n0_ := Aside0.mk (Kd.R_lower ho8 (below_size (by repeat (first | (with_reducible first | exact HB.out | apply below_alloc | apply pw_below_drewN | apply below_drew1) | exact HB.out)))); have n1_ := Aside0.mk (below_step (by repeat (first | (with_reducible first | exact HB.out | apply below_alloc | apply pw_below_drewN | apply below_drew1) | exact HB.out)) hb); clear HB; have HO234 := n0_; have HB := n1_; clear n0_ n1_; clear hb ho8; have hcv9 := own_string (P := Tryd.prog) Tryd.underlying32 Tryd.underlying5 Tryd.underlying9 (Kd.own_of_R HO234.out)))
                go_roundg k2
                case measure => have := HJ1.out; have := HK2.out; omega
                case rel => exact ⟨(wrap64 (Int.tdiv (wrap64 (x0_2 - 1)) 26)), ((strOfNums y232) ++ x3_2), (by first | rfl | (simp; done) | (simp [*]; done) | (simp; unfold wrap64; omega)), (by first | rfl | (simp; done) | (simp [*]; done) | (simp; unfold wrap64; omega)), H', ⟨by have := HJ1.out; have := HK2.out; omega⟩, ⟨by repeat (first | (with_reducible first | exact HB.out | apply below_alloc | apply pw_below_drewN | apply below_drew1) | exact HB.out)⟩⟩
              · rw [if_neg c6] at H
                exact absurd H (by simp)
            · rw [if_neg c5] at H
              have c5b0 : decide (0 < x0_2) = false := decide_eq_false c5
              clear c5
              obtain rfl := Option.some.inj H
              go_wp2
              go_ret
              exact ⟨by first | rfl | (simp [errW_none, errW_some] <;> rfl) | (simp [*, errW_none, errW_some] <;> rfl), by repeat (first | (with_reducible first | exact HB.out | apply below_alloc | apply pw_below_drewN | apply below_drew1) | exact HB.out)⟩




/-! ### -/



/-! ### spec_l1Num: function 87 -/

theorem nd_low : ∀ (u : Nat), 1 ≤ u → 10 ^ (Lib.nDigits u - 1) ≤ u := by
  intro u
  induction u using Nat.strongRecOn with
  | _ u ih =>
    intro h
    by_cases hs : u < 10
    · rw [Lib.nDigits_small hs]; simpa using h
    · rw [Lib.nDigits_big hs]
      have h1 := ih (u / 10) (by omega) (by omega)
      have h2 := Lib.nDigits_pos (u / 10)
      have h3 : 10 ^ (Lib.nDigits (u / 10) + 1 - 1) = 10 ^ (Lib.nDigits (u / 10) - 1) * 10 := by rw [← Nat.pow_succ]; congr 1; omega
      rw [h3]; omega

/-- A number's digit at a place, as the byte's number. -/
def digI (u t : Nat) : Int := ((48 + u / 10 ^ t % 10 : Nat) : Int)

/-- Its first m digits, the lowest first. -/
def digs (u m : Nat) : List Value := (List.range m).map fun t => .int .u8 (digI u t)

theorem digs_length (u m : Nat) : (digs u m).length = m := by simp [digs]

theorem digs_succ (u m : Nat) : digs u (m + 1) = digs u m ++ [.int .u8 (digI u m)] := by simp [digs, List.range_succ]

theorem digs_at (u m t : Nat) (h : t < m) : (digs u m)[t]? = some (.int .u8 (digI u t)) := by simp [digs, h]

theorem digI_le (u t : Nat) : 48 ≤ digI u t ∧ digI u t ≤ 57 := by unfold digI; omega

/-- A limb of nine digits. -/
def limb (u j : Nat) : Nat := u / 10 ^ (9 * j) % 1000000000

theorem limb_digit (u j k : Nat) (hk : k < 9) : digI u (9 * j + k) = 48 + (limb u j / 10 ^ k : Nat) % 10 := by
  unfold digI limb
  have hp : u / 10 ^ (9 * j + k) = u / 10 ^ (9 * j) / 10 ^ k := by rw [Nat.pow_add, Nat.div_div_eq_div_mul]
  rw [hp]
  generalize u / 10 ^ (9 * j) = x
  rcases (by omega : k = 0 ∨ k = 1 ∨ k = 2 ∨ k = 3 ∨ k = 4 ∨ k = 5 ∨ k = 6 ∨ k = 7 ∨ k = 8) with rfl | rfl | rfl | rfl | rfl | rfl | rfl | rfl | rfl <;> simp <;> omega

theorem limb_le (u j k : Nat) : limb u j / 10 ^ k ≤ 999999999 := by
  have h1 : limb u j / 10 ^ k ≤ limb u j := Nat.div_le_self _ _
  have h2 : limb u j < 1000000000 := Nat.mod_lt _ (by decide)
  omega

def nl (u : Nat) : Nat := if u < 1000000000 then 1 else 2

theorem nl_or (u : Nat) : nl u = 1 ∨ nl u = 2 := by unfold nl; split <;> simp

def limbC (u : Nat) : Array Value := if u < 1000000000 then #[.int .u32 (u : Int)] else #[.int .u32 ((u : Int) % 1000000000), .int .u32 ((u : Int) / 1000000000)]

theorem limbC_at (u j : Nat) (hu : u < 1000000000000000000) (hj : j < nl u) : (limbC u)[j]? = some (.int .u32 (limb u j)) := by
  unfold limbC; unfold nl at hj
  split at hj
  · rename_i h
    rw [if_pos h]
    obtain rfl : j = 0 := by omega
    simp [limb]; omega
  · rename_i h
    rw [if_neg h]
    rcases (by omega : j = 0 ∨ j = 1) with rfl | rfl
    · simp [limb]
    · simp [limb]; omega

theorem nDigits_le (u : Nat) (hu : u < 1000000000000000000) : Lib.nDigits u ≤ 9 * nl u := by
  rcases Nat.lt_or_ge (9 * nl u) (Lib.nDigits u) with h | h
  · exfalso
    have h1 : 10 ^ (Lib.nDigits u - 1) ≤ u ∨ u = 0 := by
      rcases Nat.lt_or_ge u (10 ^ (Lib.nDigits u - 1)) with h2 | h2
      · right
        exact Classical.byContradiction fun h3 => by
          have h4 := nd_low u (by omega)
          omega
      · exact .inl h2
    rcases h1 with h1 | h1
    · have h2 : 10 ^ (9 * nl u) ≤ 10 ^ (Lib.nDigits u - 1) := Nat.pow_le_pow_right (by decide) (by omega)
      unfold nl at h2
      split at h2 <;> simp at h2 <;> omega
    · subst h1; rw [Lib.nDigits_small (by omega)] at h; have := nl_or 0; omega
  · exact h

theorem dig_top (u : Nat) (h : 1 ≤ u) : digI u (Lib.nDigits u - 1) ≠ 48 := by
  have h1 := nd_low u h
  have h2 := Lib.lt_pow_nDigits u
  have h3 := Lib.nDigits_pos u
  unfold digI
  have h4 : u / 10 ^ (Lib.nDigits u - 1) < 10 := by
    rw [Nat.div_lt_iff_lt_mul (Nat.pow_pos (by decide))]
    calc u < 10 ^ Lib.nDigits u := h2
      _ = 10 * 10 ^ (Lib.nDigits u - 1) := by rw [← Nat.pow_succ']; congr 1; omega
  have h5 : 1 ≤ u / 10 ^ (Lib.nDigits u - 1) := (Nat.le_div_iff_mul_le (Nat.pow_pos (by decide))).2 (by omega)
  omega

theorem dig_over (u t : Nat) (h : Lib.nDigits u ≤ t) : digI u t = 48 := by
  unfold digI
  have h2 := Lib.lt_pow_nDigits u
  have h3 : 10 ^ Lib.nDigits u ≤ 10 ^ t := Nat.pow_le_pow_right (by decide) h
  rw [Nat.div_eq_of_lt (by omega)]; rfl

/-- The bytes of a text, as they are laid: the first q digits from the top. -/
def outD (u N q : Nat) : List Int := (List.range q).map fun t => digI u (N - 1 - t)

theorem outD_succ (u N q : Nat) : outD u N (q + 1) = outD u N q ++ [digI u (N - 1 - q)] := by simp [outD, List.range_succ]

theorem outD_length (u N q : Nat) : (outD u N q).length = q := by simp [outD]

theorem outD_bytes (u : Nat) : (outD u (Lib.nDigits u) (Lib.nDigits u)).map (fun n => UInt8.ofNat n.toNat) = Lib.decDigits u := by
  rw [Lib.decDigits_eq]
  unfold outD
  rw [List.map_map]
  refine List.map_congr_left fun t _ => ?_
  show UInt8.ofNat (digI u (Lib.nDigits u - 1 - t)).toNat = _
  unfold digI; rw [Int.toNat_natCast]; rfl

theorem out_pos (u : Nat) : strOfNums (outD u (Lib.nDigits u) (Lib.nDigits u)) = ⟨(Lib.itoa (u : Int)).toArray⟩ := by
  have e : Lib.itoa (u : Int) = Lib.decDigits u := by unfold Lib.itoa; rw [if_neg (by omega)]; simp
  unfold strOfNums; rw [outD_bytes, e]

theorem out_neg (u : Nat) (h : 1 ≤ u) : strOfNums (45 :: outD u (Lib.nDigits u) (Lib.nDigits u)) = ⟨(Lib.itoa (-(u : Int))).toArray⟩ := by
  have e : Lib.itoa (-(u : Int)) = 45 :: Lib.decDigits u := by unfold Lib.itoa; rw [if_pos (by omega)]; simp
  unfold strOfNums; rw [List.map_cons, outD_bytes, e]; rfl


set_option maxHeartbeats 2000000 in
theorem l1Small_calls (v : Int) (h1 : -1000000000000000000 < v) (h2 : v < 1000000000000000000) (w : World) :
    Calls Tryd.prog 119 #[.int .i64 v] w fun e w' => e = .returned (.agg #[.int .i64 v, .bool false, .slice none 0 0]) ∧ Below w.heap.size w w' := by
  have c1 : decide (v < 1000000000000000000) = true := decide_eq_true h2
  have c2 : decide (v > -1000000000000000000) = true := decide_eq_true h1
  go_enter Tryd.func119, Tryd.ntmps119
  go_wp2
  refine bodyPost_ret (v := .agg #[.int .i64 v, .bool false, .slice none 0 0]) (by simp [results, Tryd.results119, go_sem]) rfl ⟨rfl, below_alloc (Below.refl _ _) _⟩

set_option maxHeartbeats 2000000 in
theorem l1Add_calls (x y : Int) (h1 : -1000000000000000000 < x + y) (h2 : x + y < 1000000000000000000) (w : World) :
    Calls Tryd.prog 117 #[.agg #[.int .i64 x, .bool false, .slice none 0 0], .agg #[.int .i64 y, .bool false, .slice none 0 0]] w fun e w' => e = .returned (.agg #[.int .i64 (x + y), .bool false, .slice none 0 0]) ∧ Below w.heap.size w w' := by
  have e1 : IntKind.i64.wrap (x + y) = x + y := IntWalk.i64_in _ (by omega)
  have hs := fun w => l1Small_calls (x + y) h1 h2 w
  have hb0 := fun a b c d e => below_alloc (below_alloc (below_alloc (below_alloc (below_alloc (Below.refl w.heap.size w) a) b) c) d) e
  have HB0 := Lib.hid hb0; clear hb0
  have hk0 := fun a b c d e => blk_alloc (blk_alloc (blk_new ((w.alloc a).alloc b) c) d) e
  have HK0 := Lib.hid hk0; clear hk0
  go_enter Tryd.func117, Tryd.ntmps117
  go_wp2_with (go_at_call 142; go_in)
  refine (hs _).mono ?_; rintro e w1 ⟨rfl, hb⟩
  have hk := blk_below (HK0.out _ _ _ _ _) hb
  simp only [World.size_alloc] at hk
  have HK := Lib.hid hk
  have k0 := blk_cell hk 0; have k1 := blk_cell hk 1; have k2 := blk_cell hk 2; have f0 := blk_frozen hk 0; have f1 := blk_frozen hk 1; have f2 := blk_frozen hk 2
  simp at k0 k1 k2
  have HBB := Lib.hid (below_step (HB0.out _ _ _ _ _) hb)
  clear hk hb
  go_wp2
  (try simp only [Exit.inBlock, Exit.then]); refine bodyPost_ret (results_cell_row rfl _ _ (w.heap.size + 1 + 1) 128 _ (0, 0) _ rfl (blk_put (blk_put (blk_put HK.out 0 _ rfl) 1 _ rfl) 2 _ rfl) Tryd.underlying128 rfl (by kernel_rfl)) rfl ?_
  exact ⟨rfl, Below.setCell (Below.setCell (Below.setCell HBB.out (Nat.le_add_right _ 2) _) (Nat.le_add_right _ 2) _) (Nat.le_add_right _ 2) _⟩

set_option maxHeartbeats 2000000 in
set_option maxRecDepth 100000 in
theorem l1Mul10_calls (x : Int) (h1 : -99999999999999999 ≤ x) (h2 : x ≤ 99999999999999999) (w : World) :
    Calls Tryd.prog 118 #[.agg #[.int .i64 x, .bool false, .slice none 0 0], .agg #[.int .i64 10, .bool false, .slice none 0 0]] w fun e w' => e = .returned (.agg #[.int .i64 (x * 10), .bool false, .slice none 0 0]) ∧ Below w.heap.size w w' := by
  have e1 : IntKind.i64.wrap (x * 10) = x * 10 := IntWalk.i64_in _ (by omega)
  have hb0 := fun a b c d e f g => below_alloc (below_alloc (below_alloc (below_alloc (below_alloc (below_alloc (below_alloc (Below.refl w.heap.size w) a) b) c) d) e) f) g
  have HB0 := Lib.hid hb0; clear hb0
  have hk0 := fun a b c d e => blk_alloc (blk_alloc (blk_new ((w.alloc a).alloc b) c) d) e
  simp only [World.size_alloc] at hk0
  have HK0 := Lib.hid hk0; clear hk0
  have b0 : decide ((10 : Int) < 0) = false := rfl
  by_cases hz : x = 0
  · subst hz
    go_enter Tryd.func118, Tryd.ntmps118
    go_wp2
    (try simp only [Exit.inBlock, Exit.then]); refine bodyPost_ret (results_cell_row rfl _ _ (w.heap.size + 1 + 1) 128 _ (0, 0) _ rfl (HK0.out _ _ _ _ _) Tryd.underlying128 rfl (by kernel_rfl)) rfl ?_
    exact ⟨rfl, below_alloc (below_alloc (below_alloc (below_alloc (below_alloc (Below.refl _ _) _) _) _) _) _⟩
  · have d0 : (x == 0) = false := beq_eq_false_iff_ne.mpr hz
    by_cases hn : x < 0
    · have d1 : decide (x < 0) = true := decide_eq_true hn
      have e2 : IntKind.i64.wrap (-x) = -x := IntWalk.i64_in _ (by omega)
      have d2 : ((-x) == 0) = false := beq_eq_false_iff_ne.mpr (by omega)
      obtain ⟨q, hq⟩ : ∃ q, q = 999999999999999999 / (-x) := ⟨_, rfl⟩
      have q1 : (999999999999999999 : Int).tdiv (-x) = q := by rw [hq]; exact Int.tdiv_eq_ediv_of_nonneg (by omega)
      have q2 : 10 ≤ q := by rw [hq]; exact (Int.le_ediv_iff_mul_le (by omega)).2 (by omega)
      have q4 : q ≤ 999999999999999999 := by rw [hq]; exact Int.ediv_le_self _ (by omega)
      have q3 : decide (10 ≤ q) = true := decide_eq_true q2
      have q5 : IntKind.i64.wrap q = q := IntWalk.i64_in _ (by omega)
      have HH := Lib.hid (And.intro h1 (And.intro h2 (And.intro hq (And.intro q2 q4)))); clear h1 h2 hq q2 q4 hz
      go_enter Tryd.func118, Tryd.ntmps118
      go_wp2
      (try simp only [Exit.inBlock, Exit.then]); refine bodyPost_ret (results_cell_row rfl _ _ (w.heap.size + 1 + 1) 128 _ (0, 0) _ rfl (HK0.out _ _ _ _ _) Tryd.underlying128 rfl (by kernel_rfl)) rfl ?_
      exact ⟨rfl, below_alloc (below_alloc (below_alloc (below_alloc (below_alloc (Below.refl _ _) _) _) _) _) _⟩
    · have d1 : decide (x < 0) = false := decide_eq_false hn
      obtain ⟨q, hq⟩ : ∃ q, q = 999999999999999999 / x := ⟨_, rfl⟩
      have q1 : (999999999999999999 : Int).tdiv x = q := by rw [hq]; exact Int.tdiv_eq_ediv_of_nonneg (by omega)
      have q2 : 10 ≤ q := by rw [hq]; exact (Int.le_ediv_iff_mul_le (by omega)).2 (by omega)
      have q4 : q ≤ 999999999999999999 := by rw [hq]; exact Int.ediv_le_self _ (by omega)
      have q3 : decide (10 ≤ q) = true := decide_eq_true q2
      have q5 : IntKind.i64.wrap q = q := IntWalk.i64_in _ (by omega)
      have HH := Lib.hid (And.intro h1 (And.intro h2 (And.intro hq (And.intro q2 q4)))); clear h1 h2 hq q2 q4 hn
      go_enter Tryd.func118, Tryd.ntmps118
      go_wp2
      (try simp only [Exit.inBlock, Exit.then]); refine bodyPost_ret (results_cell_row rfl _ _ (w.heap.size + 1 + 1) 128 _ (0, 0) _ rfl (HK0.out _ _ _ _ _) Tryd.underlying128 rfl (by kernel_rfl)) rfl ?_
      exact ⟨rfl, below_alloc (below_alloc (below_alloc (below_alloc (below_alloc (Below.refl _ _) _) _) _) _) _⟩

set_option maxHeartbeats 2000000 in
set_option maxRecDepth 100000 in
theorem l1Limbs_one (v U : Int) (hv : (U = v ∧ decide (v < 0) = false) ∨ (v = -U ∧ decide (v < 0) = true ∧ decide (0 < U) = true)) (h1 : 1 ≤ U) (h2 : U < 1000000000) (w : World) :
    Calls Tryd.prog 140 #[.agg #[.int .i64 v, .bool false, .slice none 0 0]] w fun e w' => e = .returned (.slice (some ⟨w.heap.size + 1, 0, none⟩) 1 1) ∧ w'.heap[w.heap.size + 1]? = some (.cells #[.int .u32 U] 147 (0, 0)) ∧ Below w.heap.size w w' := by
  have e0 : IntKind.i64.wrap U = U := IntWalk.i64_in _ (by omega)
  have e1 : IntKind.u64.wrap U = U := by simp [IntKind.wrap, IntKind.bits, IntKind.signed]; omega
  have e2 : U % 4294967296 = U := by omega
  have d2 : (U == 0) = false := beq_eq_false_iff_ne.mpr (by omega)
  have d3 : decide (U < 1000000000) = true := decide_eq_true h2
  have HH := Lib.hid (And.intro h1 h2); clear h1 h2
  rcases hv with ⟨rfl, d1⟩ | ⟨rfl, d1, d4⟩
  all_goals
    have hc := fun a => blk_new (w.alloc a) (.cells #[.int .u32 U] 147)
    simp only [World.size_alloc] at hc
    have HC := Lib.hid hc; clear hc
    go_enter Tryd.func140, Tryd.ntmps140
    go_wp2
    go_ret
    exact ⟨rfl, HC.out _, below_alloc (below_alloc (Below.refl _ _) _) _⟩

set_option maxHeartbeats 2000000 in
set_option maxRecDepth 100000 in
theorem l1Limbs_two (v U L0 L1 : Int) (hv : (U = v ∧ decide (v < 0) = false) ∨ (v = -U ∧ decide (v < 0) = true ∧ decide (0 < U) = true)) (h1 : 1000000000 ≤ U) (h2 : U < 1000000000000000000) (hL0 : L0 = U % 1000000000) (hL1 : L1 = U / 1000000000) (w : World) :
    Calls Tryd.prog 140 #[.agg #[.int .i64 v, .bool false, .slice none 0 0]] w fun e w' => e = .returned (.slice (some ⟨w.heap.size + 1, 0, none⟩) 2 2) ∧ w'.heap[w.heap.size + 1]? = some (.cells #[.int .u32 L0, .int .u32 L1] 147 (0, 0)) ∧ Below w.heap.size w w' := by
  have e0 : IntKind.i64.wrap U = U := IntWalk.i64_in _ (by omega)
  have e1 : IntKind.u64.wrap U = U := by simp [IntKind.wrap, IntKind.bits, IntKind.signed]; omega
  have d2 : (U == 0) = false := beq_eq_false_iff_ne.mpr (by omega)
  have d3 : decide (U < 1000000000) = false := decide_eq_false (by omega)
  have m0 : U.tmod 1000000000 = L0 := by rw [hL0]; exact Int.tmod_eq_emod_of_nonneg (by omega)
  have m1 : U.tdiv 1000000000 = L1 := by rw [hL1]; exact Int.tdiv_eq_ediv_of_nonneg (by omega)
  have e3 : IntKind.u64.wrap L1 = L1 := by simp [IntKind.wrap, IntKind.bits, IntKind.signed]; omega
  have e4 : L0 % 4294967296 = L0 := by omega
  have e5 : L1 % 4294967296 = L1 := by omega
  have HH := Lib.hid (And.intro h1 (And.intro h2 (And.intro hL0 hL1))); clear h1 h2 hL0 hL1
  rcases hv with ⟨rfl, d1⟩ | ⟨rfl, d1, d4⟩
  all_goals
    have hc := fun a => blk_new (w.alloc a) (.cells #[.int .u32 L0, .int .u32 L1] 147)
    simp only [World.size_alloc] at hc
    have HC := Lib.hid hc; clear hc
    go_enter Tryd.func140, Tryd.ntmps140
    go_wp2
    go_ret
    exact ⟨rfl, HC.out _, below_alloc (below_alloc (Below.refl _ _) _) _⟩

set_option maxHeartbeats 2000000 in
theorem l1Limbs_zero (w : World) :
    Calls Tryd.prog 140 #[.agg #[.int .i64 0, .bool false, .slice none 0 0]] w fun e w' => e = .returned (.slice none 0 0) ∧ Below w.heap.size w w' := by
  go_enter Tryd.func140, Tryd.ntmps140
  go_wp2
  go_ret
  exact ⟨rfl, below_alloc (Below.refl _ _) _⟩


theorem tmod10 (n : Int) : -9 ≤ n.tmod 10 ∧ n.tmod 10 ≤ 9 ∧ (n < 0 → n.tmod 10 ≤ 0) ∧ (0 ≤ n → 0 ≤ n.tmod 10) := by
  rcases Int.lt_or_le n 0 with h | h
  · have e : n.tmod 10 = -((-n) % 10) := by rw [← Int.tmod_eq_emod_of_nonneg (by omega), Int.neg_tmod]; omega
    omega
  · rw [Int.tmod_eq_emod_of_nonneg h]; omega

set_option maxRecDepth 100000 in
theorem l1Limbs_calls (v : Int) (u : Nat) (hv : ((u : Int) = v ∧ decide (v < 0) = false) ∨ (v = -(u : Int) ∧ decide (v < 0) = true ∧ decide (0 < (u : Int)) = true)) (h1 : 1 ≤ u) (h2 : u < 1000000000000000000) (w : World) :
    Calls Tryd.prog 140 #[.agg #[.int .i64 v, .bool false, .slice none 0 0]] w fun e w' => e = .returned (.slice (some ⟨w.heap.size + 1, 0, none⟩) (nl u) (nl u)) ∧ w'.heap[w.heap.size + 1]? = some (.cells (limbC u) 147 (0, 0)) ∧ Below w.heap.size w w' := by
  by_cases hs : u < 1000000000
  · have e : nl u = 1 := if_pos hs
    have e' : limbC u = #[.int .u32 (u : Int)] := if_pos hs
    rw [e, e']
    exact (l1Limbs_one v u hv (by omega) (by omega) w).mono fun _ _ h => h
  · have e : nl u = 2 := if_neg hs
    have e' : limbC u = #[.int .u32 ((u : Int) % 1000000000), .int .u32 ((u : Int) / 1000000000)] := if_neg hs
    rw [e, e']
    exact (l1Limbs_two v u _ _ hv (by omega) (by omega) rfl rfl w).mono fun _ _ h => h

theorem l1Neg_calls (v : Int) (b : Bool) (hb : decide (v < 0) = b) (w : World) :
    Calls Tryd.prog 141 #[.agg #[.int .i64 v, .bool false, .slice none 0 0]] w fun e w' => e = .returned (.bool b) ∧ w' = w.alloc (.cells #[.int .i64 v, .bool false, .slice none 0 0] 128) := by
  go_enter Tryd.func141, Tryd.ntmps141
  go_wp2
  go_ret
  first | exact ⟨rfl, rfl⟩ | exact ⟨by rw [← hb], rfl⟩ | (rw [hb]; exact ⟨rfl, rfl⟩)

theorem u8info : (Tryd.prog.info? 5).map (fun i => (i.zero, i.size, i.bytes)) = some (some (.int .u8 0), 1, 1) := by kernel_rfl


end Go.Proofs.YtffamggcjijobaaDoor.PFnAddresses
