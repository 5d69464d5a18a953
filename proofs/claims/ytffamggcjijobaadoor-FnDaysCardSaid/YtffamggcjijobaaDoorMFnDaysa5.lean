/- Functions of the program as Lean functions, and proofs that the Go code comes to their answers: for the law FnDays; made out of the print by a program of mine (compact.py). No conditions but each theorem's own. -/
import Derived.Test.YtffamggcjijobaaDoorMFnDaysa0
import Derived.Test.YtffamggcjijobaaDoorMFnDaysa4
namespace Go.Proofs.YtffamggcjijobaaDoor.PFnDays
open List (map_toArray map_cons map_nil length_drop length_take set_cons_zero set_cons_succ setIfInBounds_toArray)
theorem Tab.toS {w : World} (h : Tab w) : TabS w := h.2.2
open Go.RowKit Go.Proofs.YtffamggcjijobaaDoorW.PrintWords Go.Proofs.YtffamggcjijobaaDoorW.PrintLast Go.Proofs.YtffamggcjijobaaDoorW.PrintMore
attribute [local go_sem] max2_int min2_int max_two min_two max_three min_three max_four min_four   -- for this text's walks alone
set_option linter.unusedVariables false
set_option linter.unusedSimpArgs false

attribute [local go_sem high] eqA36
abbrev bt5_0 : Array Bool := #[false, false, false, false, false, false, false, false, false, false, false, false, false, false]
abbrev bt5_1 : Array Bool := #[true, false, false, false, false, false, false, false, false, false, false, false, false, false]
abbrev bt5_2 : Array Bool := #[true, false, false, false, true, false, false, false, false, false, false, false, false, false]
abbrev bt5_3 : Array Bool := #[true, false, false, false, true, false, false, false, false, true, false, false, false, false]
abbrev bt5_4 : Array Bool := #[true, true, false, false, true, false, false, false, false, true, false, false, false, false]
abbrev bt5_5 : Array Bool := #[true, true, false, false, true, true, false, false, false, true, false, false, false, false]
abbrev bt5_6 : Array Bool := #[true, true, false, false, true, true, false, false, false, true, true, false, false, false]
abbrev bt5_7 : Array Bool := #[true, true, true, false, true, true, false, false, false, true, true, false, false, false]
abbrev bt5_8 : Array Bool := #[true, true, true, true, true, true, false, false, false, true, true, false, false, false]
abbrev bt5_9 : Array Bool := #[true, true, true, true, true, true, true, false, false, true, true, false, false, false]
abbrev bt5_10 : Array Bool := #[true, true, true, true, true, true, true, true, false, true, true, false, false, false]
abbrev bt5_11 : Array Bool := #[true, true, true, true, true, true, true, true, true, true, true, false, false, false]
abbrev bt5_12 : Array Bool := #[true, true, true, true, true, true, true, true, true, true, true, true, false, false]
abbrev bt5_13 : Array Bool := #[true, true, true, true, true, true, true, true, true, true, true, true, true, false]
abbrev bt5_14 : Array Bool := #[true, true, true, true, true, true, true, true, true, true, true, true, true, true]
set_option maxHeartbeats 8000000 in
set_option maxRecDepth 100000 in
theorem impl_DateText.calls (k : Nat) (a0_0 : Int) (a0_1 : Int) (a0_2 : Int) (r : ByteArray) (w : World) (hT : Tab w) (h : impl_DateText.f k a0_0 a0_1 a0_2 = some r) :
  Calls Tryd.prog 25 #[.agg #[.int .i64 a0_0, .int .i64 a0_1, .int .i64 a0_2]] w fun e w' => e = .returned (.string r) ∧ Below w.heap.size w w' := by
 have hu36 := Tryd.underlying36
 have HB := Aside0.mk (Below.refl w.heap.size w)
 have H : (if a0_0 < (-5000) then (impl_DateText.j0 k true a0_0 a0_1 a0_2) else (if a0_0 > 9999 then (impl_DateText.j0 k true a0_0 a0_1 a0_2) else (if a0_1 < 1 then (impl_DateText.j0 k true a0_0 a0_1 a0_2) else (if a0_1 > 12 then (impl_DateText.j0 k true a0_0 a0_1 a0_2) else (if a0_2 < 1 then (impl_DateText.j0 k true a0_0 a0_1 a0_2) else (impl_DateText.j0 k (decide (a0_2 > 31)) a0_0 a0_1 a0_2)))))) = some r := h
 clear h
 have HC2 := Aside0.mk H
 clear H
 go_enter Tryd.func25, Tryd.ntmps25
 go_upto_region 1 with (first | ((with_reducible refine z22q (N := 1) rfl ?_); refine z20q ?hg (N := 1) ?hd (cs := #[.int .i64 a0_0, .int .i64 a0_1, .int .i64 a0_2]) (t := 36) ?hr ?_; (case hd => rfl); (case hg => rfl); (case hr => first | (go_simp; done) | (go_simp; rfl)); intro gb259 hg w3 hbox hb; have n0_ := Aside0.mk (z11q (by repeat (first | (with_reducible first | exact HB.out | apply z2q | apply z0q | apply z1q) | exact HB.out)) hb); have n1_ := Aside0.mk (hbox); have n2_ := Aside0.mk ((by rw [hg]; exact (z12q (by repeat (first | (with_reducible first | exact HB.out | apply z2q | apply z0q | apply z1q) | exact HB.out))) : w.heap.size ≤ gb259)); have n3_ := Aside0.mk ((by rw [hg]; exact (z12q (by repeat (first | (with_reducible first | exact HB.out | apply z2q | apply z0q | apply z1q) | exact HB.out))) : w.heap.size ≤ gb259)); clear HB; have HB := n0_; have BK259 := n1_; have GW259 := n2_; have GE259 := n3_; clear n0_ n1_ n2_ n3_; clear hb hbox hg))
 (try simp only [Act.put, setIfInBounds_toArray, set_cons_zero, set_cons_succ])
 go_cut [30] (fun v30 wc => ∃ (kq : Nat) (x30_1 : Bool), v30 = .bool x30_1 ∧ Aside0 (impl_DateText.j0 kq x30_1 a0_0 a0_1 a0_2 = some r) ∧ Aside0 (kq ≤ k) ∧ Aside0 (wc.heap[gb259]? = some (.cells #[.int .i64 a0_0, .int .i64 a0_1, .int .i64 a0_2] 36 (0, 0))) ∧ Aside0 (Below w.heap.size w wc))
 case first =>
  have H := HC2.out
  clear HC2
  by_cases c4 : a0_0 < (-5000)
  ·rw [if_pos c4] at H
   have c4b0 : decide (a0_0 < (-5000)) = true := decide_eq_true c4
   clear c4
   (first | rw [c4b0] | (simp only [i64_w, i32_w]; rw [c4b0]) | skip)
   have H' := Aside0.mk H
   clear H
   have hcz5_0 : w3.cell? ⟨gb259, 0, none⟩ = some (.int .i64 a0_0) := (z7q BK259.out 0).trans rfl
   have hcz5_1 : w3.cell? ⟨gb259, 1, none⟩ = some (.int .i64 a0_1) := (z7q BK259.out 1).trans rfl
   have hcz5_2 : w3.cell? ⟨gb259, 2, none⟩ = some (.int .i64 a0_2) := (z7q BK259.out 2).trans rfl
   have hfz5_0 := z8q BK259.out 0
   have hfz5_1 := z8q BK259.out 1
   have hfz5_2 := z8q BK259.out 2
   go_wp2
   go_meet
   case rel => exact ⟨_, (true), (by first | rfl | (simp; done) | (simp [*]; done) | (simp; unfold wrap64; omega)), H', ⟨by first | omega | exact Nat.le_refl _⟩, ⟨by (with_reducible repeat (first | refine z4q ?_ _ | refine z6q ?_ | refine z5q ?_ _)); exact BK259.out⟩, ⟨by repeat (first | (with_reducible first | exact HB.out | apply z2q | apply z0q | apply z1q | refine z3q ?_ GE259.out) | exact HB.out)⟩⟩
  ·rw [if_neg c4] at H
   have c4b0 : decide (a0_0 < (-5000)) = false := decide_eq_false c4
   clear c4
   (first | rw [c4b0] | (simp only [i64_w, i32_w]; rw [c4b0]) | skip)
   by_cases c6 : a0_0 > 9999
   ·rw [if_pos c6] at H
    have c6b0 : decide (9999 < a0_0) = true := decide_eq_true c6
    clear c6
    have H' := Aside0.mk H
    clear H
    have hcz7_0 : w3.cell? ⟨gb259, 0, none⟩ = some (.int .i64 a0_0) := (z7q BK259.out 0).trans rfl
    have hcz7_1 : w3.cell? ⟨gb259, 1, none⟩ = some (.int .i64 a0_1) := (z7q BK259.out 1).trans rfl
    have hcz7_2 : w3.cell? ⟨gb259, 2, none⟩ = some (.int .i64 a0_2) := (z7q BK259.out 2).trans rfl
    have hfz7_0 := z8q BK259.out 0
    have hfz7_1 := z8q BK259.out 1
    have hfz7_2 := z8q BK259.out 2
    go_wp2
    go_meet
    case rel => exact ⟨_, (true), (by first | rfl | (simp; done) | (simp [*]; done) | (simp; unfold wrap64; omega)), H', ⟨by first | omega | exact Nat.le_refl _⟩, ⟨by (with_reducible repeat (first | refine z4q ?_ _ | refine z6q ?_ | refine z5q ?_ _)); exact BK259.out⟩, ⟨by repeat (first | (with_reducible first | exact HB.out | apply z2q | apply z0q | apply z1q | refine z3q ?_ GE259.out) | exact HB.out)⟩⟩
   ·rw [if_neg c6] at H
    have c6b0 : decide (9999 < a0_0) = false := decide_eq_false c6
    clear c6
    by_cases c8 : a0_1 < 1
    ·rw [if_pos c8] at H
     have c8b0 : decide (a0_1 < 1) = true := decide_eq_true c8
     clear c8
     have H' := Aside0.mk H
     clear H
     have hcz9_0 : w3.cell? ⟨gb259, 0, none⟩ = some (.int .i64 a0_0) := (z7q BK259.out 0).trans rfl
     have hcz9_1 : w3.cell? ⟨gb259, 1, none⟩ = some (.int .i64 a0_1) := (z7q BK259.out 1).trans rfl
     have hcz9_2 : w3.cell? ⟨gb259, 2, none⟩ = some (.int .i64 a0_2) := (z7q BK259.out 2).trans rfl
     have hfz9_0 := z8q BK259.out 0
     have hfz9_1 := z8q BK259.out 1
     have hfz9_2 := z8q BK259.out 2
     go_wp2
     go_meet
     case rel => exact ⟨_, (true), (by first | rfl | (simp; done) | (simp [*]; done) | (simp; unfold wrap64; omega)), H', ⟨by first | omega | exact Nat.le_refl _⟩, ⟨by (with_reducible repeat (first | refine z4q ?_ _ | refine z6q ?_ | refine z5q ?_ _)); exact BK259.out⟩, ⟨by repeat (first | (with_reducible first | exact HB.out | apply z2q | apply z0q | apply z1q | refine z3q ?_ GE259.out) | exact HB.out)⟩⟩
    ·rw [if_neg c8] at H
     have c8b0 : decide (a0_1 < 1) = false := decide_eq_false c8
     clear c8
     by_cases c10 : a0_1 > 12
     ·rw [if_pos c10] at H
      have c10b0 : decide (12 < a0_1) = true := decide_eq_true c10
      clear c10
      have H' := Aside0.mk H
      clear H
      have hcz11_0 : w3.cell? ⟨gb259, 0, none⟩ = some (.int .i64 a0_0) := (z7q BK259.out 0).trans rfl
      have hcz11_1 : w3.cell? ⟨gb259, 1, none⟩ = some (.int .i64 a0_1) := (z7q BK259.out 1).trans rfl
      have hcz11_2 : w3.cell? ⟨gb259, 2, none⟩ = some (.int .i64 a0_2) := (z7q BK259.out 2).trans rfl
      have hfz11_0 := z8q BK259.out 0
      have hfz11_1 := z8q BK259.out 1
      have hfz11_2 := z8q BK259.out 2
      go_wp2
      go_meet
      case rel => exact ⟨_, (true), (by first | rfl | (simp; done) | (simp [*]; done) | (simp; unfold wrap64; omega)), H', ⟨by first | omega | exact Nat.le_refl _⟩, ⟨by (with_reducible repeat (first | refine z4q ?_ _ | refine z6q ?_ | refine z5q ?_ _)); exact BK259.out⟩, ⟨by repeat (first | (with_reducible first | exact HB.out | apply z2q | apply z0q | apply z1q | refine z3q ?_ GE259.out) | exact HB.out)⟩⟩
     ·rw [if_neg c10] at H
      have c10b0 : decide (12 < a0_1) = false := decide_eq_false c10
      clear c10
      by_cases c12 : a0_2 < 1
      ·rw [if_pos c12] at H
       have c12b0 : decide (a0_2 < 1) = true := decide_eq_true c12
       clear c12
       have H' := Aside0.mk H
       clear H
       have hcz13_0 : w3.cell? ⟨gb259, 0, none⟩ = some (.int .i64 a0_0) := (z7q BK259.out 0).trans rfl
       have hcz13_1 : w3.cell? ⟨gb259, 1, none⟩ = some (.int .i64 a0_1) := (z7q BK259.out 1).trans rfl
       have hcz13_2 : w3.cell? ⟨gb259, 2, none⟩ = some (.int .i64 a0_2) := (z7q BK259.out 2).trans rfl
       have hfz13_0 := z8q BK259.out 0
       have hfz13_1 := z8q BK259.out 1
       have hfz13_2 := z8q BK259.out 2
       go_wp2
       go_meet
       case rel => exact ⟨_, (true), (by first | rfl | (simp; done) | (simp [*]; done) | (simp; unfold wrap64; omega)), H', ⟨by first | omega | exact Nat.le_refl _⟩, ⟨by (with_reducible repeat (first | refine z4q ?_ _ | refine z6q ?_ | refine z5q ?_ _)); exact BK259.out⟩, ⟨by repeat (first | (with_reducible first | exact HB.out | apply z2q | apply z0q | apply z1q | refine z3q ?_ GE259.out) | exact HB.out)⟩⟩
      ·rw [if_neg c12] at H
       have c12b0 : decide (a0_2 < 1) = false := decide_eq_false c12
       clear c12
       have H' := Aside0.mk H
       clear H
       have hcz14_0 : w3.cell? ⟨gb259, 0, none⟩ = some (.int .i64 a0_0) := (z7q BK259.out 0).trans rfl
       have hcz14_1 : w3.cell? ⟨gb259, 1, none⟩ = some (.int .i64 a0_1) := (z7q BK259.out 1).trans rfl
       have hcz14_2 : w3.cell? ⟨gb259, 2, none⟩ = some (.int .i64 a0_2) := (z7q BK259.out 2).trans rfl
       have hfz14_0 := z8q BK259.out 0
       have hfz14_1 := z8q BK259.out 1
       have hfz14_2 := z8q BK259.out 2
       go_wp2
       go_meet
       case rel => exact ⟨_, (decide (a0_2 > 31)), (by first | rfl | (simp; done) | (simp [*]; done) | (simp; unfold wrap64; omega)), H', ⟨by first | omega | exact Nat.le_refl _⟩, ⟨by (with_reducible repeat (first | refine z4q ?_ _ | refine z6q ?_ | refine z5q ?_ _)); exact BK259.out⟩, ⟨by repeat (first | (with_reducible first | exact HB.out | apply z2q | apply z0q | apply z1q | refine z3q ?_ GE259.out) | exact HB.out)⟩⟩
 case rest =>
  clear HC2
  try clear c1
  try clear c2
  try clear p2
  try clear c4
  try clear c4b0
  try clear c6
  try clear c6b0
  try clear c8
  try clear c8b0
  try clear c10
  try clear c10b0
  try clear c12
  try clear c12b0
  try clear hcz11_0
  try clear hcz11_1
  try clear hcz11_2
  try clear hcz13_0
  try clear hcz13_1
  try clear hcz13_2
  try clear hcz14_0
  try clear hcz14_1
  try clear hcz14_2
  try clear hcz5_0
  try clear hcz5_1
  try clear hcz5_2
  try clear hcz7_0
  try clear hcz7_1
  try clear hcz7_2
  try clear hcz9_0
  try clear hcz9_1
  try clear hcz9_2
  try clear hfz11_0
  try clear hfz11_1
  try clear hfz11_2
  try clear hfz13_0
  try clear hfz13_1
  try clear hfz13_2
  try clear hfz14_0
  try clear hfz14_1
  try clear hfz14_2
  try clear hfz5_0
  try clear hfz5_1
  try clear hfz5_2
  try clear hfz7_0
  try clear hfz7_1
  try clear hfz7_2
  try clear hfz9_0
  try clear hfz9_1
  try clear hfz9_2
  obtain ⟨kq, x30_1, rfl, HA, HJ1, BK259, HB⟩ := hcut
  cases kq with
  | zero => exact absurd HA.out (by simp [impl_DateText.j0])
  | succ kj1 =>
   have H := HA.out
   clear HA
   simp only [impl_DateText.j0] at H
   by_cases c15 : x30_1 = true
   ·subst c15
    have H1 : (some (⟨#[]⟩ : ByteArray)) = some r := by rw [if_pos rfl] at H; exact H
    clear H
    have H := H1
    clear H1
    obtain rfl := Option.some.inj H
    go_wp2
    go_ret
    exact ⟨by first | rfl | (simp [errW_none, errW_some] <;> rfl) | (simp [*, errW_none, errW_some] <;> rfl), by repeat (first | (with_reducible first | exact HB.out | apply z2q | apply z0q | apply z1q | refine z3q ?_ GE259.out) | exact HB.out)⟩
   ·replace c15 := Bool.eq_false_iff.mpr c15
    subst c15
    have H1 : ((impl_yearText.f kj1 a0_0).bind fun t260 => (if t260.size + 1 ≤ 9223372036854775807 then ((impl_twoDigits.f a0_1).bind fun t261 => (if (t260 ++ (⟨#[45]⟩ : ByteArray)).size + t261.size ≤ 9223372036854775807 then (if ((t260 ++ (⟨#[45]⟩ : ByteArray)) ++ t261).size + 1 ≤ 9223372036854775807 then ((impl_twoDigits.f a0_2).bind fun t262 => (if (((t260 ++ (⟨#[45]⟩ : ByteArray)) ++ t261) ++ (⟨#[45]⟩ : ByteArray)).size + t262.size ≤ 9223372036854775807 then (some ((((t260 ++ (⟨#[45]⟩ : ByteArray)) ++ t261) ++ (⟨#[45]⟩ : ByteArray)) ++ t262)) else (none))) else (none)) else (none))) else (none))) = some r := by rw [if_neg (show ¬ (false = true) by decide)] at H; exact H
    clear H
    have H := H1
    clear H1
    replace H := Option.bind_eq_some_iff.mp H
    obtain ⟨t260, A160, H⟩ := H
    replace H : (if t260.size + 1 ≤ 9223372036854775807 then ((impl_twoDigits.f a0_1).bind fun t261 => (if (t260 ++ (⟨#[45]⟩ : ByteArray)).size + t261.size ≤ 9223372036854775807 then (if ((t260 ++ (⟨#[45]⟩ : ByteArray)) ++ t261).size + 1 ≤ 9223372036854775807 then ((impl_twoDigits.f a0_2).bind fun t262 => (if (((t260 ++ (⟨#[45]⟩ : ByteArray)) ++ t261) ++ (⟨#[45]⟩ : ByteArray)).size + t262.size ≤ 9223372036854775807 then (some ((((t260 ++ (⟨#[45]⟩ : ByteArray)) ++ t261) ++ (⟨#[45]⟩ : ByteArray)) ++ t262)) else (none))) else (none)) else (none))) else (none)) = some r := H
    have A16 := Aside0.mk A160
    clear A160
    by_cases c17 : t260.size + 1 ≤ 9223372036854775807
    ·rw [if_pos c17] at H
     have c17b0 := eq_true c17
     have c17b1 : decide (t260.size + 1 ≤ 9223372036854775807) = true := decide_eq_true c17
     try have c17b2 : (9223372036854775807 < t260.size + 1) = False := eq_false (Nat.not_lt.2 c17)
     replace H := Option.bind_eq_some_iff.mp H
     obtain ⟨t261, A180, H⟩ := H
     replace H : (if (t260 ++ (⟨#[45]⟩ : ByteArray)).size + t261.size ≤ 9223372036854775807 then (if ((t260 ++ (⟨#[45]⟩ : ByteArray)) ++ t261).size + 1 ≤ 9223372036854775807 then ((impl_twoDigits.f a0_2).bind fun t262 => (if (((t260 ++ (⟨#[45]⟩ : ByteArray)) ++ t261) ++ (⟨#[45]⟩ : ByteArray)).size + t262.size ≤ 9223372036854775807 then (some ((((t260 ++ (⟨#[45]⟩ : ByteArray)) ++ t261) ++ (⟨#[45]⟩ : ByteArray)) ++ t262)) else (none))) else (none)) else (none)) = some r := H
     have A18 := Aside0.mk A180
     clear A180
     by_cases c19 : (t260 ++ (⟨#[45]⟩ : ByteArray)).size + t261.size ≤ 9223372036854775807
     ·rw [if_pos c19] at H
      have c19b0 := eq_true c19
      have c19b1 : decide ((t260 ++ (⟨#[45]⟩ : ByteArray)).size + t261.size ≤ 9223372036854775807) = true := decide_eq_true c19
      try have c19b2 : (9223372036854775807 < (t260 ++ (⟨#[45]⟩ : ByteArray)).size + t261.size) = False := eq_false (Nat.not_lt.2 c19)
      try have c19b28 : (9223372036854775807 < (t260.size + 1) + t261.size) = False := eq_false (Nat.not_lt.2 (by have h8_ := c19; simp only [ByteArray.size_append, ByteArray.size_extract, Nat.min_self, Nat.sub_zero] at h8_; exact h8_))
      by_cases c20 : ((t260 ++ (⟨#[45]⟩ : ByteArray)) ++ t261).size + 1 ≤ 9223372036854775807
      ·rw [if_pos c20] at H
       have c20b0 := eq_true c20
       have c20b1 : decide (((t260 ++ (⟨#[45]⟩ : ByteArray)) ++ t261).size + 1 ≤ 9223372036854775807) = true := decide_eq_true c20
       try have c20b2 : (9223372036854775807 < ((t260 ++ (⟨#[45]⟩ : ByteArray)) ++ t261).size + 1) = False := eq_false (Nat.not_lt.2 c20)
       try have c20b28 : (9223372036854775807 < ((t260.size + 1) + t261.size) + 1) = False := eq_false (Nat.not_lt.2 (by have h8_ := c20; simp only [ByteArray.size_append, ByteArray.size_extract, Nat.min_self, Nat.sub_zero] at h8_; exact h8_))
       replace H := Option.bind_eq_some_iff.mp H
       obtain ⟨t262, A210, H⟩ := H
       replace H : (if (((t260 ++ (⟨#[45]⟩ : ByteArray)) ++ t261) ++ (⟨#[45]⟩ : ByteArray)).size + t262.size ≤ 9223372036854775807 then (some ((((t260 ++ (⟨#[45]⟩ : ByteArray)) ++ t261) ++ (⟨#[45]⟩ : ByteArray)) ++ t262)) else (none)) = some r := H
       have A21 := Aside0.mk A210
       clear A210
       by_cases c22 : (((t260 ++ (⟨#[45]⟩ : ByteArray)) ++ t261) ++ (⟨#[45]⟩ : ByteArray)).size + t262.size ≤ 9223372036854775807
       ·rw [if_pos c22] at H
        have c22b0 := eq_true c22
        have c22b1 : decide ((((t260 ++ (⟨#[45]⟩ : ByteArray)) ++ t261) ++ (⟨#[45]⟩ : ByteArray)).size + t262.size ≤ 9223372036854775807) = true := decide_eq_true c22
        try have c22b2 : (9223372036854775807 < (((t260 ++ (⟨#[45]⟩ : ByteArray)) ++ t261) ++ (⟨#[45]⟩ : ByteArray)).size + t262.size) = False := eq_false (Nat.not_lt.2 c22)
        try have c22b28 : (9223372036854775807 < (((t260.size + 1) + t261.size) + 1) + t262.size) = False := eq_false (Nat.not_lt.2 (by have h8_ := c22; simp only [ByteArray.size_append, ByteArray.size_extract, Nat.min_self, Nat.sub_zero] at h8_; exact h8_))
        obtain rfl := Option.some.inj H
        try go_wp2
        have n0_ := Aside0.mk (z6q BK259.out)
        have n1_ := Aside0.mk (z1q HB.out)
        clear BK259
        clear HB
        have BK259 := n0_
        have HB := n1_
        clear n0_ n1_
        refine start_ (n := 14) (S := fun w' => w'.cell? ⟨gb259, 0, none⟩ = some (.int .i64 a0_0) ∧ w'.cell? ⟨gb259, 1, none⟩ = some (.int .i64 a0_1) ∧ w'.cell? ⟨gb259, 2, none⟩ = some (.int .i64 a0_2)) (ds := []) bt5_0 (by kernel_rfl) rfl rfl ⟨(z7q BK259.out 0).trans rfl, (z7q BK259.out 1).trans rfl, (z7q BK259.out 2).trans rfl⟩ (fun hHeld => ?_); refine with_tabW impl_DateText.tab3 impl_DateText.bits3 (fun HT_ HW_ => ?_)
        generalize wc.drew = w23 at BK259 HB hHeld ⊢
        refine pure_ (i := 0) (N := some 31) (v := ?_) (a' := ?_) bt5_1 rfl rfl (z10q HT_.out (by kernel_rfl)) (fun _ _ _ h => h) (Or.inl ⟨by rfl, ?_⟩) ?_ ?_
        rotate_left
        ·intro w'
         go_simp
         with_reducible rfl
        rotate_left
        ·simp only [Act.put, setIfInBounds_toArray, set_cons_zero, set_cons_succ, i64_w, i32_w]
         rfl
        refine pure_ (i := 4) (N := some 35) (v := ?_) (a' := ?_) bt5_2 rfl rfl (z10q HT_.out (by kernel_rfl)) (fun _ _ _ h => h) (Or.inl ⟨by rfl, ?_⟩) ?_ ?_
        rotate_left
        ·intro w'
         go_simp
         with_reducible rfl
        rotate_left
        ·simp only [Act.put, setIfInBounds_toArray, set_cons_zero, set_cons_succ, i64_w, i32_w]
         rfl
        refine pure_ (i := 9) (N := some 40) (v := ?_) (a' := ?_) bt5_3 rfl rfl (z10q HT_.out (by kernel_rfl)) (fun _ _ _ h => h) (Or.inl ⟨by rfl, ?_⟩) ?_ ?_
        rotate_left
        ·intro w'
         go_simp
         with_reducible rfl
        rotate_left
        ·simp only [Act.put, setIfInBounds_toArray, set_cons_zero, set_cons_succ, i64_w, i32_w]
         rfl
        refine take_ (i := 1) (N := some 32) (v := ?_) (a' := ?_) bt5_4 rfl rfl (z23q HT_.out HW_.out (by kernel_rfl)) (fun _ _ _ h => h) (Or.inl ⟨by rfl, ?_⟩) hHeld ?_ ?_
        rotate_left
        ·rintro w' ⟨s0, s1, s2⟩
         go_simp
         with_reducible rfl
        rotate_left
        ·simp only [Act.put, setIfInBounds_toArray, set_cons_zero, set_cons_succ, i64_w, i32_w]
         rfl
        refine take_ (i := 5) (N := some 36) (v := ?_) (a' := ?_) bt5_5 rfl rfl (z23q HT_.out HW_.out (by kernel_rfl)) (fun _ _ _ h => h) (Or.inl ⟨by rfl, ?_⟩) hHeld ?_ ?_
        rotate_left
        ·rintro w' ⟨s0, s1, s2⟩
         go_simp
         with_reducible rfl
        rotate_left
        ·simp only [Act.put, setIfInBounds_toArray, set_cons_zero, set_cons_succ, i64_w, i32_w]
         rfl
        refine take_ (i := 10) (N := some 41) (v := ?_) (a' := ?_) bt5_6 rfl rfl (z23q HT_.out HW_.out (by kernel_rfl)) (fun _ _ _ h => h) (Or.inl ⟨by rfl, ?_⟩) hHeld ?_ ?_
        rotate_left
        ·rintro w' ⟨s0, s1, s2⟩
         go_simp
         with_reducible rfl
        rotate_left
        ·simp only [Act.put, setIfInBounds_toArray, set_cons_zero, set_cons_succ, i64_w, i32_w]
         rfl
        refine one_ (i := 2) (N := some 33) bt5_7 rfl rfl (one_of HT_.out (by kernel_rfl)) (by decide) (fun K hK => ?_)
        refine goes_ Tryd.func67 (by kernel_rfl) rfl #[.int .i64 a0_0] (by rfl) rfl rfl (by (try simp only [map_toArray, map_cons, map_nil]); first | done | rfl | (simp only [length_drop, length_take]; rfl)) ?_
        with_reducible refine (impl_yearText.calls kj1 a0_0 t260 _ (hT.below (by repeat (first | exact HB.out | exact Below.refl _ _ | apply z2q | apply z0q | apply z1q | refine z3q ?_ GE259.out))) A16.out).mono ?_
        rintro e w24 ⟨rfl, hb⟩
        refine ⟨_, rfl, ?_⟩
        have n0_ := Aside0.mk (z13q (g := gb259) (o := .cells #[.int .i64 a0_0, .int .i64 a0_1, .int .i64 a0_2] 36 (0, 0)) (by (with_reducible repeat (first | refine z4q ?_ _ | refine z6q ?_ | refine z5q ?_ _)); exact BK259.out) hb)
        have n1_ := Aside0.mk (z11q (by repeat (first | (with_reducible first | exact HB.out | apply z2q | apply z0q | apply z1q | refine z3q ?_ GE259.out) | exact HB.out)) hb)
        clear BK259
        clear HB
        have BK259 := n0_
        have HB := n1_
        clear n0_ n1_
        (try clear hb)
        (try clear hb2)
        (try clear hk)
        (try clear hi)
        refine hK.out _ _ ⟨(z7q BK259.out 0).trans rfl, (z7q BK259.out 1).trans rfl, (z7q BK259.out 2).trans rfl⟩ (fun hHeld => ?_)
        clear hK K
        refine norm_ (a' := ?_) ?_ ?_
        rotate_left
        ·show Act.put _ (some 33) _ = _
         simp only [Act.put, setIfInBounds_toArray, set_cons_zero, set_cons_succ, i64_w, i32_w]
         rfl
        refine pure_ (i := 3) (N := some 34) (v := ?_) (a' := ?_) bt5_8 rfl rfl (z10q HT_.out (by kernel_rfl)) (fun _ _ _ h => h) (Or.inl ⟨by rfl, ?_⟩) ?_ ?_
        rotate_left
        ·intro w'
         go_simp
         with_reducible rfl
        rotate_left
        ·simp only [Act.put, setIfInBounds_toArray, set_cons_zero, set_cons_succ, i64_w, i32_w]
         rfl
        refine one_ (i := 6) (N := some 37) bt5_9 rfl rfl (one_of HT_.out (by kernel_rfl)) (by decide) (fun K hK => ?_)
        refine goes_ Tryd.func68 (by kernel_rfl) rfl #[.int .i64 a0_1] (by rfl) rfl rfl (by (try simp only [map_toArray, map_cons, map_nil]); first | done | rfl | (simp only [length_drop, length_take]; rfl)) ?_
        with_reducible refine (impl_twoDigits.calls a0_1 t261 _ (hT.below (by repeat (first | exact HB.out | exact Below.refl _ _ | apply z2q | apply z0q | apply z1q | refine z3q ?_ GE259.out))) A18.out).mono ?_
        rintro e w25 ⟨rfl, hb⟩
        refine ⟨_, rfl, ?_⟩
        have n0_ := Aside0.mk (z13q (g := gb259) (o := .cells #[.int .i64 a0_0, .int .i64 a0_1, .int .i64 a0_2] 36 (0, 0)) (by (with_reducible repeat (first | refine z4q ?_ _ | refine z6q ?_ | refine z5q ?_ _)); exact BK259.out) hb)
        have n1_ := Aside0.mk (z11q (by repeat (first | (with_reducible first | exact HB.out | apply z2q | apply z0q | apply z1q | refine z3q ?_ GE259.out) | exact HB.out)) hb)
        clear BK259
        clear HB
        have BK259 := n0_
        have HB := n1_
        clear n0_ n1_
        (try clear hb)
        (try clear hb2)
        (try clear hk)
        (try clear hi)
        refine hK.out _ _ ⟨(z7q BK259.out 0).trans rfl, (z7q BK259.out 1).trans rfl, (z7q BK259.out 2).trans rfl⟩ (fun hHeld => ?_)
        clear hK K
        refine norm_ (a' := ?_) ?_ ?_
        rotate_left
        ·show Act.put _ (some 37) _ = _
         simp only [Act.put, setIfInBounds_toArray, set_cons_zero, set_cons_succ, i64_w, i32_w]
         rfl
        refine pure_ (i := 7) (N := some 38) (v := ?_) (a' := ?_) bt5_10 rfl rfl (z10q HT_.out (by kernel_rfl)) (fun _ _ _ h => h) (Or.inl ⟨by rfl, ?_⟩) ?_ ?_
        rotate_left
        ·intro w'
         go_simp
         with_reducible rfl
        rotate_left
        ·simp only [Act.put, setIfInBounds_toArray, set_cons_zero, set_cons_succ, i64_w, i32_w]
         rfl
        refine pure_ (i := 8) (N := some 39) (v := ?_) (a' := ?_) bt5_11 rfl rfl (z10q HT_.out (by kernel_rfl)) (fun _ _ _ h => h) (Or.inl ⟨by rfl, ?_⟩) ?_ ?_
        rotate_left
        ·intro w'
         go_simp
         with_reducible rfl
        rotate_left
        ·simp only [Act.put, setIfInBounds_toArray, set_cons_zero, set_cons_succ, i64_w, i32_w]
         rfl
        refine one_ (i := 11) (N := some 42) bt5_12 rfl rfl (one_of HT_.out (by kernel_rfl)) (by decide) (fun K hK => ?_)
        refine goes_ Tryd.func68 (by kernel_rfl) rfl #[.int .i64 a0_2] (by rfl) rfl rfl (by (try simp only [map_toArray, map_cons, map_nil]); first | done | rfl | (simp only [length_drop, length_take]; rfl)) ?_
        with_reducible refine (impl_twoDigits.calls a0_2 t262 _ (hT.below (by repeat (first | exact HB.out | exact Below.refl _ _ | apply z2q | apply z0q | apply z1q | refine z3q ?_ GE259.out))) A21.out).mono ?_
        rintro e w26 ⟨rfl, hb⟩
        refine ⟨_, rfl, ?_⟩
        have n0_ := Aside0.mk (z13q (g := gb259) (o := .cells #[.int .i64 a0_0, .int .i64 a0_1, .int .i64 a0_2] 36 (0, 0)) (by (with_reducible repeat (first | refine z4q ?_ _ | refine z6q ?_ | refine z5q ?_ _)); exact BK259.out) hb)
        have n1_ := Aside0.mk (z11q (by repeat (first | (with_reducible first | exact HB.out | apply z2q | apply z0q | apply z1q | refine z3q ?_ GE259.out) | exact HB.out)) hb)
        clear BK259
        clear HB
        have BK259 := n0_
        have HB := n1_
        clear n0_ n1_
        (try clear hb)
        (try clear hb2)
        (try clear hk)
        (try clear hi)
        refine hK.out _ _ ⟨(z7q BK259.out 0).trans rfl, (z7q BK259.out 1).trans rfl, (z7q BK259.out 2).trans rfl⟩ (fun hHeld => ?_)
        clear hK K
        refine norm_ (a' := ?_) ?_ ?_
        rotate_left
        ·show Act.put _ (some 42) _ = _
         simp only [Act.put, setIfInBounds_toArray, set_cons_zero, set_cons_succ, i64_w, i32_w]
         rfl
        refine pure_ (i := 12) (N := some 43) (v := ?_) (a' := ?_) bt5_13 rfl rfl (z10q HT_.out (by kernel_rfl)) (fun _ _ _ h => h) (Or.inl ⟨by rfl, ?_⟩) ?_ ?_
        rotate_left
        ·intro w'
         go_simp
         with_reducible rfl
        rotate_left
        ·simp only [Act.put, setIfInBounds_toArray, set_cons_zero, set_cons_succ, i64_w, i32_w]
         rfl
        refine pure_ (i := 13) (N := some 2) (v := ?_) (a' := ?_) bt5_14 rfl rfl (z10q HT_.out (by kernel_rfl)) (fun _ _ _ h => h) (Or.inl ⟨by rfl, ?_⟩) ?_ ?_
        rotate_left
        ·intro w'
         go_simp
         with_reducible rfl
        rotate_left
        ·simp only [Act.put, setIfInBounds_toArray, set_cons_zero, set_cons_succ, i64_w, i32_w]
         rfl
        refine done_ (done_of HT_.out (by kernel_rfl)) ?_
        try go_wp2
        go_ret
        exact ⟨by first | rfl | (simp [errW_none, errW_some] <;> rfl) | (simp [*, errW_none, errW_some] <;> rfl), by repeat (first | (with_reducible first | exact HB.out | apply z2q | apply z0q | apply z1q | refine z3q ?_ GE259.out) | exact HB.out)⟩
       ·rw [if_neg c22] at H
        exact absurd H (by simp)
      ·rw [if_neg c20] at H
       exact absurd H (by simp)
     ·rw [if_neg c19] at H
      exact absurd H (by simp)
    ·rw [if_neg c17] at H
     exact absurd H (by simp)




/-! ### -/



/-! ### strconv_Atoi: function 69 -/

def shl_laysC172_ren : Go.Shelf.Ren := ⟨fun | 172 => 69 | 244 => 110 | 245 => 111 | 247 => 134 | 279 => 135 | 280 => 136 | 281 => 137 | 282 => 138 | 287 => 156 | 316 => 157 | 171 => 81 | 205 => 158 | 321 => 166 | 322 => 167 | 243 => 115 | 246 => 139 | 283 => 159 | 284 => 160 | 285 => 161 | 286 => 162 | 129 => 169 | 317 => 168 | 318 => 170 | 319 => 171 | 320 => 172 | 337 => 173 | 338 => 174 | n => n, fun | 9 => 9 | 3 => 3 | 75 => 89 | 76 => 90 | 4 => 4 | 5 => 5 | 167 => 139 | 37 => 32 | 0 => 0 | 85 => 140 | 2 => 2 | 168 => 142 | 53 => 78 | 175 => 160 | 46 => 121 | 210 => 163 | 127 => 138 | 145 => 177 | 143 => 175 | 21 => 21 | 171 => 165 | 173 => 168 | 212 => 179 | 51 => 147 | 20 => 20 | 213 => 180 | 232 => 183 | 233 => 184 | 80 => 76 | n => n, fun | 15 => 2 | 16 => 3 | 17 => 5 | 18 => 6 | 19 => 7 | n => n⟩

theorem shl_laysC172 : Go.Proofs.LaysC.n172 Tryd.prog shl_laysC172_ren := {
 mixed := by kernel_rfl
 f129 := Tryd.func169.trans (congrArg some (by kernel_rfl))
 f171 := Tryd.func81.trans (congrArg some (by kernel_rfl))
 f172 := Tryd.func69.trans (congrArg some (by kernel_rfl))
 f205 := Tryd.func158.trans (congrArg some (by kernel_rfl))
 f243 := Tryd.func115.trans (congrArg some (by kernel_rfl))
 f244 := Tryd.func110.trans (congrArg some (by kernel_rfl))
 f245 := Tryd.func111.trans (congrArg some (by kernel_rfl))
 f246 := Tryd.func139.trans (congrArg some (by kernel_rfl))
 f247 := Tryd.func134.trans (congrArg some (by kernel_rfl))
 f279 := Tryd.func135.trans (congrArg some (by kernel_rfl))
 f280 := Tryd.func136.trans (congrArg some (by kernel_rfl))
 f281 := Tryd.func137.trans (congrArg some (by kernel_rfl))
 f282 := Tryd.func138.trans (congrArg some (by kernel_rfl))
 f283 := Tryd.func159.trans (congrArg some (by kernel_rfl))
 f284 := Tryd.func160.trans (congrArg some (by kernel_rfl))
 f285 := Tryd.func161.trans (congrArg some (by kernel_rfl))
 f286 := Tryd.func162.trans (congrArg some (by kernel_rfl))
 f287 := Tryd.func156.trans (congrArg some (by kernel_rfl))
 f316 := Tryd.func157.trans (congrArg some (by kernel_rfl))
 f317 := Tryd.func168.trans (congrArg some (by kernel_rfl))
 f318 := Tryd.func170.trans (congrArg some (by kernel_rfl))
 f319 := Tryd.func171.trans (congrArg some (by kernel_rfl))
 f320 := Tryd.func172.trans (congrArg some (by kernel_rfl))
 f321 := Tryd.func166.trans (congrArg some (by kernel_rfl))
 f322 := Tryd.func167.trans (congrArg some (by kernel_rfl))
 f337 := Tryd.func173.trans (congrArg some (by kernel_rfl))
 f338 := Tryd.func174.trans (congrArg some (by kernel_rfl))
 t0 := Tryd.underlying0
 a0 := Tryd.isAgg0
 z0 := Tryd.sizeOf0
 v0 := Tryd.zeroValue0
 t2 := Tryd.underlying2
 a2 := Tryd.isAgg2
 z2 := Tryd.sizeOf2
 v2 := Tryd.zeroValue2
 t3 := Tryd.underlying3
 a3 := Tryd.isAgg3
 z3 := Tryd.sizeOf3
 v3 := Tryd.zeroValue3
 t4 := Tryd.underlying4
 a4 := Tryd.isAgg4
 z4 := Tryd.sizeOf4
 v4 := Tryd.zeroValue4
 t5 := Tryd.underlying5
 a5 := Tryd.isAgg5
 z5 := Tryd.sizeOf5
 v5 := Tryd.zeroValue5
 t9 := Tryd.underlying9
 a9 := Tryd.isAgg9
 z9 := Tryd.sizeOf9
 v9 := Tryd.zeroValue9
 t20 := Tryd.underlying20
 a20 := Tryd.isAgg20
 z20 := Tryd.sizeOf20
 v20 := Tryd.zeroValue20
 t21 := Tryd.underlying21
 a21 := Tryd.isAgg21
 z21 := Tryd.sizeOf21
 v21 := Tryd.zeroValue21
 t37 := Tryd.underlying32
 a37 := Tryd.isAgg32
 z37 := Tryd.sizeOf32
 v37 := Tryd.zeroValue32
 t46 := Tryd.underlying121
 a46 := Tryd.isAgg121
 z46 := Tryd.sizeOf121
 v46 := Tryd.zeroValue121
 t51 := Tryd.underlying147
 a51 := Tryd.isAgg147
 z51 := Tryd.sizeOf147
 v51 := Tryd.zeroValue147
 t53 := Tryd.underlying78
 a53 := Tryd.isAgg78
 z53 := Tryd.sizeOf78
 v53 := Tryd.zeroValue78
 t75 := Tryd.underlying89
 a75 := Tryd.isAgg89
 z75 := Tryd.sizeOf89
 v75 := Tryd.zeroValue89
 t76 := Tryd.underlying90
 a76 := Tryd.isAgg90
 z76 := Tryd.sizeOf90
 v76 := Tryd.zeroValue90
 t85 := Tryd.underlying140
 a85 := Tryd.isAgg140
 z85 := Tryd.sizeOf140
 v85 := Tryd.zeroValue140
 t127 := Tryd.underlying138
 a127 := Tryd.isAgg138
 z127 := Tryd.sizeOf138
 v127 := Tryd.zeroValue138
 t143 := Tryd.underlying175
 a143 := Tryd.isAgg175
 z143 := Tryd.sizeOf175
 v143 := Tryd.zeroValue175
 t145 := Tryd.underlying177
 a145 := Tryd.isAgg177
 z145 := Tryd.sizeOf177
 v145 := Tryd.zeroValue177
 t167 := Tryd.underlying139
 a167 := Tryd.isAgg139
 z167 := Tryd.sizeOf139
 v167 := Tryd.zeroValue139
 t168 := Tryd.underlying142
 a168 := Tryd.isAgg142
 z168 := Tryd.sizeOf142
 v168 := Tryd.zeroValue142
 t171 := Tryd.underlying165
 a171 := Tryd.isAgg165
 z171 := Tryd.sizeOf165
 v171 := Tryd.zeroValue165
 t173 := Tryd.underlying168
 a173 := Tryd.isAgg168
 z173 := Tryd.sizeOf168
 v173 := Tryd.zeroValue168
 t175 := Tryd.underlying160
 a175 := Tryd.isAgg160
 z175 := Tryd.sizeOf160
 v175 := Tryd.zeroValue160
 t210 := Tryd.underlying163
 a210 := Tryd.isAgg163
 z210 := Tryd.sizeOf163
 v210 := Tryd.zeroValue163
 t212 := Tryd.underlying179
 a212 := Tryd.isAgg179
 z212 := Tryd.sizeOf179
 v212 := Tryd.zeroValue179
 t213 := Tryd.underlying180
 a213 := Tryd.isAgg180
 z213 := Tryd.sizeOf180
 t232 := Tryd.underlying183
 a232 := Tryd.isAgg183
 z232 := Tryd.sizeOf183
 v232 := Tryd.zeroValue183
 t233 := Tryd.underlying184
 a233 := Tryd.isAgg184
 z233 := Tryd.sizeOf184
 v233 := Tryd.zeroValue184
 g15 := by kernel_rfl
 g16 := by kernel_rfl
 g17 := by kernel_rfl
 g18 := by kernel_rfl
 g19 := by kernel_rfl
 t80 := Tryd.underlying76
 a80 := Tryd.isAgg76
 z80 := Tryd.sizeOf76
 v80 := Tryd.zeroValue76
 i0 := by kernel_rfl
 i2 := by kernel_rfl
 i3 := by kernel_rfl
 i4 := by kernel_rfl
 i5 := by kernel_rfl
 i9 := by kernel_rfl
 i20 := by kernel_rfl
 i21 := by kernel_rfl
 i37 := by kernel_rfl
 i46 := by kernel_rfl
 i51 := by kernel_rfl
 i53 := by kernel_rfl
 i75 := by kernel_rfl
 i76 := by kernel_rfl
 i80 := by kernel_rfl
 i85 := by kernel_rfl
 i127 := by kernel_rfl
 i143 := by kernel_rfl
 i145 := by kernel_rfl
 i167 := by kernel_rfl
 i168 := by kernel_rfl
 i171 := by kernel_rfl
 i173 := by kernel_rfl
 i175 := by kernel_rfl
 i210 := by kernel_rfl
 i212 := by kernel_rfl
 i232 := by kernel_rfl
 i233 := by kernel_rfl
 m15 := by kernel_rfl
 m16 := by kernel_rfl
 m17 := by kernel_rfl
 m18 := by kernel_rfl
 m19 := by kernel_rfl
 c0 := by kernel_rfl
 c2 := by kernel_rfl
 c3 := by kernel_rfl
 c4 := by kernel_rfl
 c5 := by kernel_rfl
 c9 := by kernel_rfl
 c20 := by kernel_rfl
 c21 := by kernel_rfl
 c37 := by kernel_rfl
 c46 := by kernel_rfl
 c51 := by kernel_rfl
 c53 := by kernel_rfl
 c75 := by kernel_rfl
 c76 := by kernel_rfl
 c80 := by kernel_rfl
 c85 := by kernel_rfl
 c127 := by kernel_rfl
 c143 := by kernel_rfl
 c145 := by kernel_rfl
 c167 := by kernel_rfl
 c168 := by kernel_rfl
 c171 := by kernel_rfl
 c173 := by kernel_rfl
 c175 := by kernel_rfl
 c210 := by kernel_rfl
 c212 := by kernel_rfl
 c213 := by kernel_rfl
 c232 := by kernel_rfl
 c233 := by kernel_rfl }

open Go.RowKit Go.Sort Go.Lib in

theorem shl_strconv_Atoi_ok (s : ByteArray) (hmax : s.size ≤ 9223372036854775806) (v : Int) (h : Lib.atoiAll s.data.toList = .ok v) (w : World) :
  Calls Tryd.prog 69 #[.string s] w fun e w' => e = .returned (.tuple #[.int .i64 v, .nilIface]) ∧ (w' = w ∨ ∃ t, w' = Lib.bytesWorld w 5 t) := Any.strconv_Atoi_ok shl_laysC172 s hmax v h w


open Go.RowKit Go.Sort Go.Lib in

theorem shl_strconv_Atoi_syntax_var (s : ByteArray) (hlim : s.size ≤ 281474976710656) (h : Lib.atoiAll s.data.toList = .«syntax») (tp : TypeId) (p : Value) (w : World) (hvar : w.var? Tryd.prog "strconv.ErrSyntax" = some #[.iface tp p]) :
  Calls Tryd.prog 69 #[.string s] w fun e w' => ∃ N, e = .returned (.tuple #[.int .i64 0, .iface 142 (.pointer (some ⟨N, 0, none⟩))]) ∧ w.heap.size ≤ N ∧ w'.heap[N]? = some (.cells #[.string ⟨#[65, 116, 111, 105]⟩, .string s, .iface tp p] 163 (0, 0)) ∧ Below w.heap.size w w' := Any.strconv_Atoi_syntax_var shl_laysC172 s hlim h tp p w hvar


open Go.RowKit Go.Sort Go.Lib in

theorem shl_strconv_Atoi_range_var (s : ByteArray) (hlim : s.size ≤ 281474976710656) (h : Lib.atoiAll s.data.toList = .range) (tp : TypeId) (p : Value) (w : World) (hvar : w.var? Tryd.prog "strconv.ErrRange" = some #[.iface tp p]) :
  Calls Tryd.prog 69 #[.string s] w fun e w' => ∃ N, e = .returned (.tuple #[.int .i64 (Lib.atoiSat s.data.toList), .iface 142 (.pointer (some ⟨N, 0, none⟩))]) ∧ w.heap.size ≤ N ∧ w'.heap[N]? = some (.cells #[.string ⟨#[65, 116, 111, 105]⟩, .string s, .iface tp p] 163 (0, 0)) ∧ Below w.heap.size w w' := Any.strconv_Atoi_range_var shl_laysC172 s hlim h tp p w hvar


theorem atoi_bytes (w : World) (s : ByteArray) : Below w.heap.size w (Lib.bytesWorld w 5 s) := by
 have h1 : Below w.heap.size w (w.drew.alloc (.cells (Lib.bytesCells w 5 s) 5)) := z2q (z0q (Below.refl _ _) 1) _
 refine ⟨h1.os, h1.tape, h1.output, ?_, fun k hk => ?_⟩
 ·rw [Lib.bytesWorld_size]; omega
 ·exact Lib.bytesWorld_at_old w 5 s k hk

/-- The error beside the number: none, or one of the library's two. -/
def ErrIs (r : Option Int) (ev : Value) : Prop := match r with
 | none => ev = .nilIface
 | some _ => ∃ N, ev = .iface 142 (.pointer (some ⟨N, 0, none⟩))

def atoiV (s : ByteArray) : Int × Option Int := match Lib.atoiAll s.data.toList with
 | .ok v => (v, none)
 | .«syntax» => (0, some 0)
 | .range => (Lib.atoiSat s.data.toList, some 1)

def strconv_Atoi.f (a0 : ByteArray) : Option (Int × Option Int) := if a0.size ≤ 281474976710656 then some (atoiV a0) else none

theorem strconv_Atoi.calls (a0 : ByteArray) (r1 : Int) (r2 : Option Int) (w : World) (hT : Tab w) (h : strconv_Atoi.f a0 = some (r1, r2)) :
  Calls Tryd.prog 69 #[.string a0] w fun e w' => ∃ ev, e = .returned (.tuple #[.int .i64 r1, ev]) ∧ Below w.heap.size w w' ∧ Aside0 (ErrIs r2 ev) := by
 unfold strconv_Atoi.f at h
 by_cases hs : a0.size ≤ 281474976710656
 ·rw [if_pos hs] at h
  replace h := Option.some.inj h
  unfold atoiV at h
  cases ha : Lib.atoiAll a0.data.toList with
  | ok v =>
   rw [ha] at h; injection h with h1 h2; subst h1; subst h2
   refine (shl_strconv_Atoi_ok a0 (by omega) v ha w).mono fun e w' ⟨he, hw⟩ => ⟨_, he, ?_, ⟨rfl⟩⟩
   rcases hw with rfl | ⟨t, rfl⟩
   ·exact Below.refl _ _
   ·exact atoi_bytes w t
  | «syntax» =>
   rw [ha] at h; injection h with h1 h2; subst h1; subst h2
   obtain ⟨tp, p, hv⟩ := hT.toS.1
   exact (shl_strconv_Atoi_syntax_var a0 hs ha tp p w hv).mono fun e w' ⟨N, he, _, _, hb⟩ => ⟨_, he, hb, ⟨N, rfl⟩⟩
  | range =>
   rw [ha] at h; injection h with h1 h2; subst h1; subst h2
   obtain ⟨tp, p, hv⟩ := hT.toS.2
   exact (shl_strconv_Atoi_range_var a0 hs ha tp p w hv).mono fun e w' ⟨N, he, _, _, hb⟩ => ⟨_, he, hb, ⟨N, rfl⟩⟩
 ·rw [if_neg hs] at h; cases h



/-! ### impl_ReadDate: function 26 -/

def impl_ReadDate.j0 : Nat → Int → ByteArray → Int → Bool → Option (Int × Bool)
 | 0, _, _, _, _ => none
 | k + 1, x0, x1, x6, x21 => if x21 = true then (some (0, false)) else (if 0 ≤ (wrap64 (x6 - 6)) then (if (wrap64 (x6 - 6)) ≤ (x1.size : Int) then ((strconv_Atoi.f (x1.extract 0 ((wrap64 (x6 - 6)) : Int).toNat)).bind fun bt281 => (if 0 ≤ (wrap64 (x6 - 5)) then (if (wrap64 (x6 - 5)) ≤ (wrap64 (x6 - 3)) then (if (wrap64 (x6 - 3)) ≤ (x1.size : Int) then ((strconv_Atoi.f (x1.extract ((wrap64 (x6 - 5)) : Int).toNat ((wrap64 (x6 - 3)) : Int).toNat)).bind fun bt283 => (if 0 ≤ (wrap64 (x6 - 2)) then (if (wrap64 (x6 - 2)) ≤ (x1.size : Int) then ((strconv_Atoi.f (x1.extract ((wrap64 (x6 - 2)) : Int).toNat x1.size)).bind fun bt285 => (if bt281.2.isNone = true then (if bt283.2.isNone = true then (if bt285.2.isNone = true then ((impl_DateText.f k bt281.1 bt283.1 bt285.1).bind fun t291 => (if t291.toList = x1.toList then ((impl_DayOf.f k x0 bt281.1 bt283.1 bt285.1).bind fun bt292 => (some (bt292.1, bt292.2))) else (some (0, false)))) else (some (0, false))) else (some (0, false))) else (some (0, false)))) else (none)) else (none))) else (none)) else (none)) else (none))) else (none)) else (none))

def impl_ReadDate.f (k : Nat) (a0 : Int) (a1 : ByteArray) : Option (Int × Bool) := if (a1.size : Int) < 10 then (impl_ReadDate.j0 k a0 a1 (a1.size : Int) true) else (impl_ReadDate.j0 k a0 a1 (a1.size : Int) (decide ((a1.size : Int) > 11)))

set_option maxHeartbeats 8000000 in
set_option maxRecDepth 100000 in
theorem impl_ReadDate.calls_p1 (k : Nat) (a0 : Int) (a1 : ByteArray) (r1 : Int) (r2 : Bool) (w : World) (hT : Tab w) (H : (if (a1.size : Int) < 10 then (impl_ReadDate.j0 k a0 a1 (a1.size : Int) true) else (impl_ReadDate.j0 k a0 a1 (a1.size : Int) (decide ((a1.size : Int) > 11)))) = some (r1, r2)) :
  Calls Tryd.prog 26 #[.int .i64 a0, .string a1] w fun e w' => e = .returned (.tuple #[.int .i64 r1, .bool r2]) ∧ Below w.heap.size w w' := by
 have hu36 := Tryd.underlying36
 have hu89 := Tryd.underlying89
 have hu139 := Tryd.underlying139
 have HB := Aside0.mk (Below.refl w.heap.size w)
 have HC3 := Aside0.mk H
 clear H
 go_enter Tryd.func26, Tryd.ntmps26
 go_upto_region 2 with (fail)
 go_cut [21] (fun v21 wc => ∃ (kq : Nat) (x21_2 : Bool), v21 = .bool x21_2 ∧ Aside0 (impl_ReadDate.j0 kq a0 a1 (a1.size : Int) x21_2 = some (r1, r2)) ∧ Aside0 (kq ≤ k) ∧ Aside0 (Below w.heap.size w wc))
 case first =>
  have H := HC3.out
  clear HC3
  by_cases c4 : (a1.size : Int) < 10
  ·rw [if_pos c4] at H
   have c4b0 : decide ((a1.size : Int) < 10) = true := decide_eq_true c4
   have c4b1 : decide (a1.size < 10) = true := decide_eq_true (by omega)
   clear c4
   (first | rw [c4b0] | (simp only [i64_w, i32_w]; rw [c4b0]) | skip)
   have H' := Aside0.mk H
   clear H
   go_wp2
   go_meet
   case rel => exact ⟨_, (true), (by first | rfl | (simp; done) | (simp [*]; done) | (simp; unfold wrap64; omega)), H', ⟨by first | omega | exact Nat.le_refl _⟩, ⟨by repeat (first | (with_reducible first | exact HB.out | apply z2q | apply z0q | apply z1q) | exact HB.out)⟩⟩
  ·rw [if_neg c4] at H
   have c4b0 : decide ((a1.size : Int) < 10) = false := decide_eq_false c4
   have c4b1 : decide (a1.size < 10) = false := decide_eq_false (by omega)
   clear c4
   (first | rw [c4b0] | (simp only [i64_w, i32_w]; rw [c4b0]) | skip)
   have H' := Aside0.mk H
   clear H
   go_wp2
   go_meet
   case rel => exact ⟨_, (decide ((a1.size : Int) > 11)), (by first | rfl | (simp; done) | (simp [*]; done) | (simp; unfold wrap64; omega)), H', ⟨by first | omega | exact Nat.le_refl _⟩, ⟨by repeat (first | (with_reducible first | exact HB.out | apply z2q | apply z0q | apply z1q) | exact HB.out)⟩⟩
 case rest =>
  clear HC3
  try clear c2
  try clear p2
  try clear c4
  try clear c4b0
  try clear c4b1
  obtain ⟨kq, x21_2, rfl, HA, HJ2, HB⟩ := hcut
  cases kq with
  | zero => exact absurd HA.out (by simp [impl_ReadDate.j0])
  | succ kj2 =>
   have H := HA.out
   clear HA
   simp only [impl_ReadDate.j0] at H
   by_cases c5 : x21_2 = true
   ·subst c5
    have H1 : (some (0, false)) = some (r1, r2) := by rw [if_pos rfl] at H; exact H
    clear H
    have H := H1
    clear H1
    simp only [Option.some.injEq, Prod.mk.injEq] at H
    obtain ⟨rfl, rfl⟩ := H
    go_wp2
    go_ret2
    exact ⟨by first | rfl | (simp [errW_none, errW_some] <;> rfl) | (simp [*, errW_none, errW_some] <;> rfl), by repeat (first | (with_reducible first | exact HB.out | apply z2q | apply z0q | apply z1q) | exact HB.out)⟩
   ·replace c5 := Bool.eq_false_iff.mpr c5
    subst c5
    have H1 : (if 0 ≤ (wrap64 ((a1.size : Int) - 6)) then (if (wrap64 ((a1.size : Int) - 6)) ≤ (a1.size : Int) then ((strconv_Atoi.f (a1.extract 0 ((wrap64 ((a1.size : Int) - 6)) : Int).toNat)).bind fun bt281 => (if 0 ≤ (wrap64 ((a1.size : Int) - 5)) then (if (wrap64 ((a1.size : Int) - 5)) ≤ (wrap64 ((a1.size : Int) - 3)) then (if (wrap64 ((a1.size : Int) - 3)) ≤ (a1.size : Int) then ((strconv_Atoi.f (a1.extract ((wrap64 ((a1.size : Int) - 5)) : Int).toNat ((wrap64 ((a1.size : Int) - 3)) : Int).toNat)).bind fun bt283 => (if 0 ≤ (wrap64 ((a1.size : Int) - 2)) then (if (wrap64 ((a1.size : Int) - 2)) ≤ (a1.size : Int) then ((strconv_Atoi.f (a1.extract ((wrap64 ((a1.size : Int) - 2)) : Int).toNat a1.size)).bind fun bt285 => (if bt281.2.isNone = true then (if bt283.2.isNone = true then (if bt285.2.isNone = true then ((impl_DateText.f kj2 bt281.1 bt283.1 bt285.1).bind fun t291 => (if t291.toList = a1.toList then ((impl_DayOf.f kj2 a0 bt281.1 bt283.1 bt285.1).bind fun bt292 => (some (bt292.1, bt292.2))) else (some (0, false)))) else (some (0, false))) else (some (0, false))) else (some (0, false)))) else (none)) else (none))) else (none)) else (none)) else (none))) else (none)) else (none)) = some (r1, r2) := by rw [if_neg (show ¬ (false = true) by decide)] at H; exact H
    clear H
    have H := H1
    clear H1
    obtain ⟨ji6, hji6⟩ : ∃ j_ : Int, (wrap64 ((a1.size : Int) - 6)) = j_ := ⟨_, rfl⟩
    replace H : (if 0 ≤ (ji6) then (if (ji6) ≤ (a1.size : Int) then ((strconv_Atoi.f (a1.extract 0 ((ji6) : Int).toNat)).bind fun bt281 => (if 0 ≤ (wrap64 ((a1.size : Int) - 5)) then (if (wrap64 ((a1.size : Int) - 5)) ≤ (wrap64 ((a1.size : Int) - 3)) then (if (wrap64 ((a1.size : Int) - 3)) ≤ (a1.size : Int) then ((strconv_Atoi.f (a1.extract ((wrap64 ((a1.size : Int) - 5)) : Int).toNat ((wrap64 ((a1.size : Int) - 3)) : Int).toNat)).bind fun bt283 => (if 0 ≤ (wrap64 ((a1.size : Int) - 2)) then (if (wrap64 ((a1.size : Int) - 2)) ≤ (a1.size : Int) then ((strconv_Atoi.f (a1.extract ((wrap64 ((a1.size : Int) - 2)) : Int).toNat a1.size)).bind fun bt285 => (if bt281.2.isNone = true then (if bt283.2.isNone = true then (if bt285.2.isNone = true then ((impl_DateText.f kj2 bt281.1 bt283.1 bt285.1).bind fun t291 => (if t291.toList = a1.toList then ((impl_DayOf.f kj2 a0 bt281.1 bt283.1 bt285.1).bind fun bt292 => (some (bt292.1, bt292.2))) else (some (0, false)))) else (some (0, false))) else (some (0, false))) else (some (0, false)))) else (none)) else (none))) else (none)) else (none)) else (none))) else (none)) else (none)) = some (r1, r2) := by first | (rw [hji6] at H; exact H) | (simp only [hji6] at H ⊢; exact H)
    have hji6w : (IntKind.i64.wrap ((a1.size : Int) - 6)) = ji6 := (i64_w _).trans hji6
    by_cases c7 : 0 ≤ (ji6)
    ·rw [if_pos c7] at H
     have c7b0 := eq_true c7
     have c7b1 : decide (0 ≤ (ji6)) = true := decide_eq_true c7
     clear c7
     by_cases c8 : (ji6) ≤ (a1.size : Int)
     ·rw [if_pos c8] at H
      have c8b0 := eq_true c8
      have c8b1 : decide ((ji6) ≤ (a1.size : Int)) = true := decide_eq_true c8
      clear c8
      replace H := Option.bind_eq_some_iff.mp H
      obtain ⟨⟨t281, t282⟩, A90, H⟩ := H
      replace H : (if 0 ≤ (wrap64 ((a1.size : Int) - 5)) then (if (wrap64 ((a1.size : Int) - 5)) ≤ (wrap64 ((a1.size : Int) - 3)) then (if (wrap64 ((a1.size : Int) - 3)) ≤ (a1.size : Int) then ((strconv_Atoi.f (a1.extract ((wrap64 ((a1.size : Int) - 5)) : Int).toNat ((wrap64 ((a1.size : Int) - 3)) : Int).toNat)).bind fun bt283 => (if 0 ≤ (wrap64 ((a1.size : Int) - 2)) then (if (wrap64 ((a1.size : Int) - 2)) ≤ (a1.size : Int) then ((strconv_Atoi.f (a1.extract ((wrap64 ((a1.size : Int) - 2)) : Int).toNat a1.size)).bind fun bt285 => (if t282.isNone = true then (if bt283.2.isNone = true then (if bt285.2.isNone = true then ((impl_DateText.f kj2 t281 bt283.1 bt285.1).bind fun t291 => (if t291.toList = a1.toList then ((impl_DayOf.f kj2 a0 t281 bt283.1 bt285.1).bind fun bt292 => (some (bt292.1, bt292.2))) else (some (0, false)))) else (some (0, false))) else (some (0, false))) else (some (0, false)))) else (none)) else (none))) else (none)) else (none)) else (none)) = some (r1, r2) := H
      have A9 := Aside0.mk A90
      clear A90
      obtain ⟨ji10, hji10⟩ : ∃ j_ : Int, (wrap64 ((a1.size : Int) - 5)) = j_ := ⟨_, rfl⟩
      replace H : (if 0 ≤ (ji10) then (if (ji10) ≤ (wrap64 ((a1.size : Int) - 3)) then (if (wrap64 ((a1.size : Int) - 3)) ≤ (a1.size : Int) then ((strconv_Atoi.f (a1.extract ((ji10) : Int).toNat ((wrap64 ((a1.size : Int) - 3)) : Int).toNat)).bind fun bt283 => (if 0 ≤ (wrap64 ((a1.size : Int) - 2)) then (if (wrap64 ((a1.size : Int) - 2)) ≤ (a1.size : Int) then ((strconv_Atoi.f (a1.extract ((wrap64 ((a1.size : Int) - 2)) : Int).toNat a1.size)).bind fun bt285 => (if t282.isNone = true then (if bt283.2.isNone = true then (if bt285.2.isNone = true then ((impl_DateText.f kj2 t281 bt283.1 bt285.1).bind fun t291 => (if t291.toList = a1.toList then ((impl_DayOf.f kj2 a0 t281 bt283.1 bt285.1).bind fun bt292 => (some (bt292.1, bt292.2))) else (some (0, false)))) else (some (0, false))) else (some (0, false))) else (some (0, false)))) else (none)) else (none))) else (none)) else (none)) else (none)) = some (r1, r2) := by first | (rw [hji10] at H; exact H) | (simp only [hji10] at H ⊢; exact H)
      (try rw [hji10] at A9)
      have hji10w : (IntKind.i64.wrap ((a1.size : Int) - 5)) = ji10 := (i64_w _).trans hji10
      by_cases c11 : 0 ≤ (ji10)
      ·rw [if_pos c11] at H
       have c11b0 := eq_true c11
       have c11b1 : decide (0 ≤ (ji10)) = true := decide_eq_true c11
       clear c11
       by_cases c12 : (ji10) ≤ (wrap64 ((a1.size : Int) - 3))
       ·rw [if_pos c12] at H
        have c12b0 := eq_true c12
        have c12b1 : decide ((ji10) ≤ (wrap64 ((a1.size : Int) - 3))) = true := decide_eq_true c12
        clear c12
        by_cases c13 : (wrap64 ((a1.size : Int) - 3)) ≤ (a1.size : Int)
        ·rw [if_pos c13] at H
         have c13b0 := eq_true c13
         have c13b1 : decide ((wrap64 ((a1.size : Int) - 3)) ≤ (a1.size : Int)) = true := decide_eq_true c13
         clear c13
         replace H := Option.bind_eq_some_iff.mp H
         obtain ⟨⟨t283, t284⟩, A140, H⟩ := H
         replace H : (if 0 ≤ (wrap64 ((a1.size : Int) - 2)) then (if (wrap64 ((a1.size : Int) - 2)) ≤ (a1.size : Int) then ((strconv_Atoi.f (a1.extract ((wrap64 ((a1.size : Int) - 2)) : Int).toNat a1.size)).bind fun bt285 => (if t282.isNone = true then (if t284.isNone = true then (if bt285.2.isNone = true then ((impl_DateText.f kj2 t281 t283 bt285.1).bind fun t291 => (if t291.toList = a1.toList then ((impl_DayOf.f kj2 a0 t281 t283 bt285.1).bind fun bt292 => (some (bt292.1, bt292.2))) else (some (0, false)))) else (some (0, false))) else (some (0, false))) else (some (0, false)))) else (none)) else (none)) = some (r1, r2) := H
         have A14 := Aside0.mk A140
         clear A140
         obtain ⟨ji15, hji15⟩ : ∃ j_ : Int, (wrap64 ((a1.size : Int) - 2)) = j_ := ⟨_, rfl⟩
         replace H : (if 0 ≤ (ji15) then (if (ji15) ≤ (a1.size : Int) then ((strconv_Atoi.f (a1.extract ((ji15) : Int).toNat a1.size)).bind fun bt285 => (if t282.isNone = true then (if t284.isNone = true then (if bt285.2.isNone = true then ((impl_DateText.f kj2 t281 t283 bt285.1).bind fun t291 => (if t291.toList = a1.toList then ((impl_DayOf.f kj2 a0 t281 t283 bt285.1).bind fun bt292 => (some (bt292.1, bt292.2))) else (some (0, false)))) else (some (0, false))) else (some (0, false))) else (some (0, false)))) else (none)) else (none)) = some (r1, r2) := by first | (rw [hji15] at H; exact H) | (simp only [hji15] at H ⊢; exact H)
         (try rw [hji15] at A9)
         (try rw [hji15] at A14)
         have hji15w : (IntKind.i64.wrap ((a1.size : Int) - 2)) = ji15 := (i64_w _).trans hji15
         by_cases c16 : 0 ≤ (ji15)
         ·rw [if_pos c16] at H
          have c16b0 := eq_true c16
          have c16b1 : decide (0 ≤ (ji15)) = true := decide_eq_true c16
          clear c16
          by_cases c17 : (ji15) ≤ (a1.size : Int)
          ·rw [if_pos c17] at H
           have c17b0 := eq_true c17
           have c17b1 : decide ((ji15) ≤ (a1.size : Int)) = true := decide_eq_true c17
           clear c17
           replace H := Option.bind_eq_some_iff.mp H
           obtain ⟨⟨t285, t286⟩, A180, H⟩ := H
           replace H : (if t282.isNone = true then (if t284.isNone = true then (if t286.isNone = true then ((impl_DateText.f kj2 t281 t283 t285).bind fun t291 => (if t291.toList = a1.toList then ((impl_DayOf.f kj2 a0 t281 t283 t285).bind fun bt292 => (some (bt292.1, bt292.2))) else (some (0, false)))) else (some (0, false))) else (some (0, false))) else (some (0, false))) = some (r1, r2) := H
           have A18 := Aside0.mk A180
           clear A180
           rcases t282 with _ | q288
           ·have H1 : (if t284.isNone = true then (if t286.isNone = true then ((impl_DateText.f kj2 t281 t283 t285).bind fun t291 => (if t291.toList = a1.toList then ((impl_DayOf.f kj2 a0 t281 t283 t285).bind fun bt292 => (some (bt292.1, bt292.2))) else (some (0, false)))) else (some (0, false))) else (some (0, false))) = some (r1, r2) := by rw [if_pos (show (none : Option Int).isNone = true by rfl)] at H; exact H
            clear H
            have H := H1
            clear H1
            try simp only [errW_none, errW_some]
            rcases t284 with _ | q289
            ·have H1 : (if t286.isNone = true then ((impl_DateText.f kj2 t281 t283 t285).bind fun t291 => (if t291.toList = a1.toList then ((impl_DayOf.f kj2 a0 t281 t283 t285).bind fun bt292 => (some (bt292.1, bt292.2))) else (some (0, false)))) else (some (0, false))) = some (r1, r2) := by rw [if_pos (show (none : Option Int).isNone = true by rfl)] at H; exact H
             clear H
             have H := H1
             clear H1
             try simp only [errW_none, errW_some]
             rcases t286 with _ | q290
             ·have H1 : ((impl_DateText.f kj2 t281 t283 t285).bind fun t291 => (if t291.toList = a1.toList then ((impl_DayOf.f kj2 a0 t281 t283 t285).bind fun bt292 => (some (bt292.1, bt292.2))) else (some (0, false)))) = some (r1, r2) := by rw [if_pos (show (none : Option Int).isNone = true by rfl)] at H; exact H
              clear H
              have H := H1
              clear H1
              try simp only [errW_none, errW_some]
              replace H := Option.bind_eq_some_iff.mp H
              obtain ⟨t291, A190, H⟩ := H
              replace H : (if t291.toList = a1.toList then ((impl_DayOf.f kj2 a0 t281 t283 t285).bind fun bt292 => (some (bt292.1, bt292.2))) else (some (0, false))) = some (r1, r2) := H
              have A19 := Aside0.mk A190
              clear A190
              by_cases c20 : t291.toList = a1.toList
              ·rw [if_pos c20] at H
               have c20b0 : (t291.toList == a1.toList) = true := beq_iff_eq.mpr c20
               have c20b1 : (t291.toList != a1.toList) = false := bne_eq_false_iff_eq.mpr c20
               clear c20
               replace H := Option.bind_eq_some_iff.mp H
               obtain ⟨⟨t292, t293⟩, A210, H⟩ := H
               replace H : (some (t292, t293)) = some (r1, r2) := H
               have A21 := Aside0.mk A210
               clear A210
               simp only [Option.some.injEq, Prod.mk.injEq] at H
               obtain ⟨rfl, rfl⟩ := H
               go_wp2_with (first | ((with_reducible refine z9q (f := 69) rfl ?_); refine z17q (some 27) rfl rfl Tryd.func69 (by kernel_rfl) rfl #[.string (a1.extract 0 ((ji6) : Int).toNat)] rfl (by (try simp only [map_toArray, map_cons, map_nil]); first | done | (simp only [hji6]; rfl) | rfl | (simp only [length_drop, length_take]; rfl)) ?_; (with_reducible refine (strconv_Atoi.calls (a1.extract 0 ((ji6) : Int).toNat) t281 none _ (hT.below (by repeat (first | exact HB.out | exact Below.refl _ _ | apply z2q | apply z0q | apply z1q | refine z3q ?_ GE287.out))) A9.out).mono ?_); rintro e w22 ⟨ev_w22, rfl, hb, hev_w22⟩; (try (first | (obtain rfl : ev_w22 = Value.nilIface := hev_w22.out) | (obtain ⟨N_w22, rfl⟩ := hev_w22.out))); refine ⟨_, rfl, ?_⟩; have n0_ := Aside0.mk (z11q (by repeat (first | (with_reducible first | exact HB.out | apply z2q | apply z0q | apply z1q) | exact HB.out)) hb); clear HB; have HB := n0_; clear n0_; (try clear hb); (try clear hb2); (try clear hk); (try clear hi); (try simp only [errW_none, errW_some])) | ((with_reducible refine z9q (f := 69) rfl ?_); refine z17q (some 37) rfl rfl Tryd.func69 (by kernel_rfl) rfl #[.string (a1.extract ((ji10) : Int).toNat ((wrap64 ((a1.size : Int) - 3)) : Int).toNat)] rfl (by (try simp only [map_toArray, map_cons, map_nil]); first | done | (simp only [hji10]; rfl) | rfl | (simp only [length_drop, length_take]; rfl)) ?_; (with_reducible refine (strconv_Atoi.calls (a1.extract ((ji10) : Int).toNat ((wrap64 ((a1.size : Int) - 3)) : Int).toNat) t283 none _ (hT.below (by repeat (first | exact HB.out | exact Below.refl _ _ | apply z2q | apply z0q | apply z1q | refine z3q ?_ GE287.out))) A14.out).mono ?_); rintro e w23 ⟨ev_w23, rfl, hb, hev_w23⟩; (try (first | (obtain rfl : ev_w23 = Value.nilIface := hev_w23.out) | (obtain ⟨N_w23, rfl⟩ := hev_w23.out))); refine ⟨_, rfl, ?_⟩; have n0_ := Aside0.mk (z11q (by repeat (first | (with_reducible first | exact HB.out | apply z2q | apply z0q | apply z1q) | exact HB.out)) hb); clear HB; have HB := n0_; clear n0_; (try clear hb); (try clear hb2); (try clear hk); (try clear hi); (try simp only [errW_none, errW_some])) | ((with_reducible refine z9q (f := 69) rfl ?_); refine z17q (some 45) rfl rfl Tryd.func69 (by kernel_rfl) rfl #[.string (a1.extract ((ji15) : Int).toNat a1.size)] rfl (by (try simp only [map_toArray, map_cons, map_nil]); first | done | (simp only [hji15]; rfl) | rfl | (simp only [length_drop, length_take]; rfl)) ?_; (with_reducible refine (strconv_Atoi.calls (a1.extract ((ji15) : Int).toNat a1.size) t285 none _ (hT.below (by repeat (first | exact HB.out | exact Below.refl _ _ | apply z2q | apply z0q | apply z1q | refine z3q ?_ GE287.out))) A18.out).mono ?_); rintro e w24 ⟨ev_w24, rfl, hb, hev_w24⟩; (try (first | (obtain rfl : ev_w24 = Value.nilIface := hev_w24.out) | (obtain ⟨N_w24, rfl⟩ := hev_w24.out))); refine ⟨_, rfl, ?_⟩; have n0_ := Aside0.mk (z11q (by repeat (first | (with_reducible first | exact HB.out | apply z2q | apply z0q | apply z1q) | exact HB.out)) hb); clear HB; have HB := n0_; clear n0_; (try clear hb); (try clear hb2); (try clear hk); (try clear hi); (try simp only [errW_none, errW_some])) | ((with_reducible refine z22q (N := 13) rfl ?_); refine z20q ?hg (N := 13) ?hd (cs := #[.int .i64 0, .int .i64 0, .int .i64 0]) (t := 36) ?hr ?_; (case hd => rfl); (case hg => rfl); (case hr => first | (go_simp; done) | (go_simp; rfl)); intro gb287 hg w25 hbox hb; have n0_ := Aside0.mk (z11q (by repeat (first | (with_reducible first | exact HB.out | apply z2q | apply z0q | apply z1q) | exact HB.out)) hb); have n1_ := Aside0.mk (hbox); have n2_ := Aside0.mk ((by rw [hg]; exact (z12q (by repeat (first | (with_reducible first | exact HB.out | apply z2q | apply z0q | apply z1q) | exact HB.out))) : w.heap.size ≤ gb287)); have n3_ := Aside0.mk ((by rw [hg]; exact (z12q (by repeat (first | (with_reducible first | exact HB.out | apply z2q | apply z0q | apply z1q) | exact HB.out))) : w.heap.size ≤ gb287)); clear HB; have HB := n0_; have BK287 := n1_; have GW287 := n2_; have GE287 := n3_; clear n0_ n1_ n2_ n3_; clear hb hbox hg; have hcz26_0 : w25.cell? ⟨gb287, 0, none⟩ = some (.int .i64 0) := (z7q BK287.out 0).trans rfl; have hcz26_1 : w25.cell? ⟨gb287, 1, none⟩ = some (.int .i64 0) := (z7q BK287.out 1).trans rfl; have hcz26_2 : w25.cell? ⟨gb287, 2, none⟩ = some (.int .i64 0) := (z7q BK287.out 2).trans rfl; have hfz26_0 := z8q BK287.out 0; have hfz26_1 := z8q BK287.out 1; have hfz26_2 := z8q BK287.out 2) | (go_at_call 25; (with_reducible refine (impl_DateText.calls kj2 t281 t283 t285 t291 _ (hT.below (by repeat (first | exact HB.out | exact Below.refl _ _ | apply z2q | apply z0q | apply z1q | refine z3q ?_ GE287.out))) A19.out).mono ?_); rintro e w27 ⟨rfl, hb⟩; have n0_ := Aside0.mk (z13q (g := gb287) (o := .cells #[.int .i64 t281, .int .i64 t283, .int .i64 t285] 36 (0, 0)) (by (with_reducible repeat (first | refine z4q ?_ _ | refine z6q ?_ | refine z5q ?_ _)); refine z14q (cs := #[.int .i64 t281, .int .i64 t283, .int .i64 0]) ?_ 2 _ rfl; (with_reducible repeat (first | refine z4q ?_ _ | refine z6q ?_ | refine z5q ?_ _)); refine z14q (cs := #[.int .i64 t281, .int .i64 0, .int .i64 0]) ?_ 1 _ rfl; (with_reducible repeat (first | refine z4q ?_ _ | refine z6q ?_ | refine z5q ?_ _)); refine z14q (cs := #[.int .i64 0, .int .i64 0, .int .i64 0]) ?_ 0 _ rfl; (with_reducible repeat (first | refine z4q ?_ _ | refine z6q ?_ | refine z5q ?_ _)); exact BK287.out) hb); have n1_ := Aside0.mk (z11q (by repeat (first | (with_reducible first | exact HB.out | apply z2q | apply z0q | apply z1q | refine z3q ?_ GE287.out) | exact HB.out)) hb); clear BK287; clear HB; have BK287 := n0_; have HB := n1_; clear n0_ n1_; (try clear hb); (try clear hb2); (try clear hk); (try clear hi); have hcz28_0 : w27.cell? ⟨gb287, 0, none⟩ = some (.int .i64 t281) := (z7q BK287.out 0).trans rfl; have hcz28_1 : w27.cell? ⟨gb287, 1, none⟩ = some (.int .i64 t283) := (z7q BK287.out 1).trans rfl; have hcz28_2 : w27.cell? ⟨gb287, 2, none⟩ = some (.int .i64 t285) := (z7q BK287.out 2).trans rfl; have hfz28_0 := z8q BK287.out 0; have hfz28_1 := z8q BK287.out 1; have hfz28_2 := z8q BK287.out 2) | ((with_reducible refine z9q (f := 21) rfl ?_); refine z17q (some 70) rfl rfl Tryd.func21 (by kernel_rfl) rfl #[.int .i64 a0, .agg #[.int .i64 t281, .int .i64 t283, .int .i64 t285]] rfl (by (try simp only [map_toArray, map_cons, map_nil]); first | done | rfl | (simp only [length_drop, length_take]; rfl)) ?_; (with_reducible refine (impl_DayOf.calls kj2 a0 t281 t283 t285 t292 t293 _ (hT.below (by repeat (first | exact HB.out | exact Below.refl _ _ | apply z2q | apply z0q | apply z1q | refine z3q ?_ GE287.out))) A21.out).mono ?_); rintro e w29 ⟨rfl, hb⟩; refine ⟨_, rfl, ?_⟩; have n0_ := Aside0.mk (z13q (g := gb287) (o := .cells #[.int .i64 t281, .int .i64 t283, .int .i64 t285] 36 (0, 0)) (by (with_reducible repeat (first | refine z4q ?_ _ | refine z6q ?_ | refine z5q ?_ _)); exact BK287.out) hb); have n1_ := Aside0.mk (z11q (by repeat (first | (with_reducible first | exact HB.out | apply z2q | apply z0q | apply z1q | refine z3q ?_ GE287.out) | exact HB.out)) hb); clear BK287; clear HB; have BK287 := n0_; have HB := n1_; clear n0_ n1_; (try clear hb); (try clear hb2); (try clear hk); (try clear hi)))
               go_ret2
               exact ⟨by first | rfl | (simp [errW_none, errW_some] <;> rfl) | (simp only [← hji6, ← hji10, ← hji15]; first | rfl | (simp [errW_none, errW_some] <;> rfl)) | (simp [*, errW_none, errW_some] <;> rfl), by repeat (first | (with_reducible first | exact HB.out | apply z2q | apply z0q | apply z1q | refine z3q ?_ GE287.out) | exact HB.out)⟩
              ·rw [if_neg c20] at H
               have c20b0 : (t291.toList == a1.toList) = false := beq_eq_false_iff_ne.mpr c20
               have c20b1 : (t291.toList != a1.toList) = true := bne_iff_ne.mpr c20
               simp only [Option.some.injEq, Prod.mk.injEq] at H
               obtain ⟨rfl, rfl⟩ := H
               go_wp2_with (first | ((with_reducible refine z9q (f := 69) rfl ?_); refine z17q (some 27) rfl rfl Tryd.func69 (by kernel_rfl) rfl #[.string (a1.extract 0 ((ji6) : Int).toNat)] rfl (by (try simp only [map_toArray, map_cons, map_nil]); first | done | (simp only [hji6]; rfl) | rfl | (simp only [length_drop, length_take]; rfl)) ?_; (with_reducible refine (strconv_Atoi.calls (a1.extract 0 ((ji6) : Int).toNat) t281 none _ (hT.below (by repeat (first | exact HB.out | exact Below.refl _ _ | apply z2q | apply z0q | apply z1q | refine z3q ?_ GE287.out))) A9.out).mono ?_); rintro e w30 ⟨ev_w30, rfl, hb, hev_w30⟩; (try (first | (obtain rfl : ev_w30 = Value.nilIface := hev_w30.out) | (obtain ⟨N_w30, rfl⟩ := hev_w30.out))); refine ⟨_, rfl, ?_⟩; have n0_ := Aside0.mk (z11q (by repeat (first | (with_reducible first | exact HB.out | apply z2q | apply z0q | apply z1q) | exact HB.out)) hb); clear HB; have HB := n0_; clear n0_; (try clear hb); (try clear hb2); (try clear hk); (try clear hi); (try simp only [errW_none, errW_some])) | ((with_reducible refine z9q (f := 69) rfl ?_); refine z17q (some 37) rfl rfl Tryd.func69 (by kernel_rfl) rfl #[.string (a1.extract ((ji10) : Int).toNat ((wrap64 ((a1.size : Int) - 3)) : Int).toNat)] rfl (by (try simp only [map_toArray, map_cons, map_nil]); first | done | (simp only [hji10]; rfl) | rfl | (simp only [length_drop, length_take]; rfl)) ?_; (with_reducible refine (strconv_Atoi.calls (a1.extract ((ji10) : Int).toNat ((wrap64 ((a1.size : Int) - 3)) : Int).toNat) t283 none _ (hT.below (by repeat (first | exact HB.out | exact Below.refl _ _ | apply z2q | apply z0q | apply z1q | refine z3q ?_ GE287.out))) A14.out).mono ?_); rintro e w31 ⟨ev_w31, rfl, hb, hev_w31⟩; (try (first | (obtain rfl : ev_w31 = Value.nilIface := hev_w31.out) | (obtain ⟨N_w31, rfl⟩ := hev_w31.out))); refine ⟨_, rfl, ?_⟩; have n0_ := Aside0.mk (z11q (by repeat (first | (with_reducible first | exact HB.out | apply z2q | apply z0q | apply z1q) | exact HB.out)) hb); clear HB; have HB := n0_; clear n0_; (try clear hb); (try clear hb2); (try clear hk); (try clear hi); (try simp only [errW_none, errW_some])) | ((with_reducible refine z9q (f := 69) rfl ?_); refine z17q (some 45) rfl rfl Tryd.func69 (by kernel_rfl) rfl #[.string (a1.extract ((ji15) : Int).toNat a1.size)] rfl (by (try simp only [map_toArray, map_cons, map_nil]); first | done | (simp only [hji15]; rfl) | rfl | (simp only [length_drop, length_take]; rfl)) ?_; (with_reducible refine (strconv_Atoi.calls (a1.extract ((ji15) : Int).toNat a1.size) t285 none _ (hT.below (by repeat (first | exact HB.out | exact Below.refl _ _ | apply z2q | apply z0q | apply z1q | refine z3q ?_ GE287.out))) A18.out).mono ?_); rintro e w32 ⟨ev_w32, rfl, hb, hev_w32⟩; (try (first | (obtain rfl : ev_w32 = Value.nilIface := hev_w32.out) | (obtain ⟨N_w32, rfl⟩ := hev_w32.out))); refine ⟨_, rfl, ?_⟩; have n0_ := Aside0.mk (z11q (by repeat (first | (with_reducible first | exact HB.out | apply z2q | apply z0q | apply z1q) | exact HB.out)) hb); clear HB; have HB := n0_; clear n0_; (try clear hb); (try clear hb2); (try clear hk); (try clear hi); (try simp only [errW_none, errW_some])) | ((with_reducible refine z22q (N := 13) rfl ?_); refine z20q ?hg (N := 13) ?hd (cs := #[.int .i64 0, .int .i64 0, .int .i64 0]) (t := 36) ?hr ?_; (case hd => rfl); (case hg => rfl); (case hr => first | (go_simp; done) | (go_simp; rfl)); intro gb287 hg w33 hbox hb; have n0_ := Aside0.mk (z11q (by repeat (first | (with_reducible first | exact HB.out | apply z2q | apply z0q | apply z1q) | exact HB.out)) hb); have n1_ := Aside0.mk (hbox); have n2_ := Aside0.mk ((by rw [hg]; exact (z12q (by repeat (first | (with_reducible first | exact HB.out | apply z2q | apply z0q | apply z1q) | exact HB.out))) : w.heap.size ≤ gb287)); have n3_ := Aside0.mk ((by rw [hg]; exact (z12q (by repeat (first | (with_reducible first | exact HB.out | apply z2q | apply z0q | apply z1q) | exact HB.out))) : w.heap.size ≤ gb287)); clear HB; have HB := n0_; have BK287 := n1_; have GW287 := n2_; have GE287 := n3_; clear n0_ n1_ n2_ n3_; clear hb hbox hg; have hcz34_0 : w33.cell? ⟨gb287, 0, none⟩ = some (.int .i64 0) := (z7q BK287.out 0).trans rfl; have hcz34_1 : w33.cell? ⟨gb287, 1, none⟩ = some (.int .i64 0) := (z7q BK287.out 1).trans rfl; have hcz34_2 : w33.cell? ⟨gb287, 2, none⟩ = some (.int .i64 0) := (z7q BK287.out 2).trans rfl; have hfz34_0 := z8q BK287.out 0; have hfz34_1 := z8q BK287.out 1; have hfz34_2 := z8q BK287.out 2) | (go_at_call 25; (with_reducible refine (impl_DateText.calls kj2 t281 t283 t285 t291 _ (hT.below (by repeat (first | exact HB.out | exact Below.refl _ _ | apply z2q | apply z0q | apply z1q | refine z3q ?_ GE287.out))) A19.out).mono ?_); rintro e w35 ⟨rfl, hb⟩; have n0_ := Aside0.mk (z13q (g := gb287) (o := .cells #[.int .i64 t281, .int .i64 t283, .int .i64 t285] 36 (0, 0)) (by (with_reducible repeat (first | refine z4q ?_ _ | refine z6q ?_ | refine z5q ?_ _)); refine z14q (cs := #[.int .i64 t281, .int .i64 t283, .int .i64 0]) ?_ 2 _ rfl; (with_reducible repeat (first | refine z4q ?_ _ | refine z6q ?_ | refine z5q ?_ _)); refine z14q (cs := #[.int .i64 t281, .int .i64 0, .int .i64 0]) ?_ 1 _ rfl; (with_reducible repeat (first | refine z4q ?_ _ | refine z6q ?_ | refine z5q ?_ _)); refine z14q (cs := #[.int .i64 0, .int .i64 0, .int .i64 0]) ?_ 0 _ rfl; (with_reducible repeat (first | refine z4q ?_ _ | refine z6q ?_ | refine z5q ?_ _)); exact BK287.out) hb); have n1_ := Aside0.mk (z11q (by repeat (first | (with_reducible first | exact HB.out | apply z2q | apply z0q | apply z1q | refine z3q ?_ GE287.out) | exact HB.out)) hb); clear BK287; clear HB; have BK287 := n0_; have HB := n1_; clear n0_ n1_; (try clear hb); (try clear hb2); (try clear hk); (try clear hi)))
               go_ret2
               exact ⟨by first | rfl | (simp [errW_none, errW_some] <;> rfl) | (simp only [← hji6, ← hji10, ← hji15]; first | rfl | (simp [errW_none, errW_some] <;> rfl)) | (simp [*, errW_none, errW_some] <;> rfl), by repeat (first | (with_reducible first | exact HB.out | apply z2q | apply z0q | apply z1q | refine z3q ?_ GE287.out) | exact HB.out)⟩
             ·have H1 : (some (0, false)) = some (r1, r2) := by rw [if_neg (show ¬ (some q290).isNone = true by simp)] at H; exact H
              clear H
              have H := H1
              clear H1
              try simp only [errW_none, errW_some]
              simp only [Option.some.injEq, Prod.mk.injEq] at H
              obtain ⟨rfl, rfl⟩ := H
              go_wp2_with (first | ((with_reducible refine z9q (f := 69) rfl ?_); refine z17q (some 27) rfl rfl Tryd.func69 (by kernel_rfl) rfl #[.string (a1.extract 0 ((ji6) : Int).toNat)] rfl (by (try simp only [map_toArray, map_cons, map_nil]); first | done | (simp only [hji6]; rfl) | rfl | (simp only [length_drop, length_take]; rfl)) ?_; (with_reducible refine (strconv_Atoi.calls (a1.extract 0 ((ji6) : Int).toNat) t281 none _ (hT.below (by repeat (first | exact HB.out | exact Below.refl _ _ | apply z2q | apply z0q | apply z1q | refine z3q ?_ GE287.out))) A9.out).mono ?_); rintro e w36 ⟨ev_w36, rfl, hb, hev_w36⟩; (try (first | (obtain rfl : ev_w36 = Value.nilIface := hev_w36.out) | (obtain ⟨N_w36, rfl⟩ := hev_w36.out))); refine ⟨_, rfl, ?_⟩; have n0_ := Aside0.mk (z11q (by repeat (first | (with_reducible first | exact HB.out | apply z2q | apply z0q | apply z1q) | exact HB.out)) hb); clear HB; have HB := n0_; clear n0_; (try clear hb); (try clear hb2); (try clear hk); (try clear hi); (try simp only [errW_none, errW_some])) | ((with_reducible refine z9q (f := 69) rfl ?_); refine z17q (some 37) rfl rfl Tryd.func69 (by kernel_rfl) rfl #[.string (a1.extract ((ji10) : Int).toNat ((wrap64 ((a1.size : Int) - 3)) : Int).toNat)] rfl (by (try simp only [map_toArray, map_cons, map_nil]); first | done | (simp only [hji10]; rfl) | rfl | (simp only [length_drop, length_take]; rfl)) ?_; (with_reducible refine (strconv_Atoi.calls (a1.extract ((ji10) : Int).toNat ((wrap64 ((a1.size : Int) - 3)) : Int).toNat) t283 none _ (hT.below (by repeat (first | exact HB.out | exact Below.refl _ _ | apply z2q | apply z0q | apply z1q | refine z3q ?_ GE287.out))) A14.out).mono ?_); rintro e w37 ⟨ev_w37, rfl, hb, hev_w37⟩; (try (first | (obtain rfl : ev_w37 = Value.nilIface := hev_w37.out) | (obtain ⟨N_w37, rfl⟩ := hev_w37.out))); refine ⟨_, rfl, ?_⟩; have n0_ := Aside0.mk (z11q (by repeat (first | (with_reducible first | exact HB.out | apply z2q | apply z0q | apply z1q) | exact HB.out)) hb); clear HB; have HB := n0_; clear n0_; (try clear hb); (try clear hb2); (try clear hk); (try clear hi); (try simp only [errW_none, errW_some])) | ((with_reducible refine z9q (f := 69) rfl ?_); refine z17q (some 45) rfl rfl Tryd.func69 (by kernel_rfl) rfl #[.string (a1.extract ((ji15) : Int).toNat a1.size)] rfl (by (try simp only [map_toArray, map_cons, map_nil]); first | done | (simp only [hji15]; rfl) | rfl | (simp only [length_drop, length_take]; rfl)) ?_; (with_reducible refine (strconv_Atoi.calls (a1.extract ((ji15) : Int).toNat a1.size) t285 (some q290) _ (hT.below (by repeat (first | exact HB.out | exact Below.refl _ _ | apply z2q | apply z0q | apply z1q | refine z3q ?_ GE287.out))) A18.out).mono ?_); rintro e w38 ⟨ev_w38, rfl, hb, hev_w38⟩; (try (first | (obtain rfl : ev_w38 = Value.nilIface := hev_w38.out) | (obtain ⟨N_w38, rfl⟩ := hev_w38.out))); refine ⟨_, rfl, ?_⟩; have n0_ := Aside0.mk (z11q (by repeat (first | (with_reducible first | exact HB.out | apply z2q | apply z0q | apply z1q) | exact HB.out)) hb); clear HB; have HB := n0_; clear n0_; (try clear hb); (try clear hb2); (try clear hk); (try clear hi); (try simp only [errW_none, errW_some])) | ((with_reducible refine z22q (N := 13) rfl ?_); refine z20q ?hg (N := 13) ?hd (cs := #[.int .i64 0, .int .i64 0, .int .i64 0]) (t := 36) ?hr ?_; (case hd => rfl); (case hg => rfl); (case hr => first | (go_simp; done) | (go_simp; rfl)); intro gb287 hg w39 hbox hb; have n0_ := Aside0.mk (z11q (by repeat (first | (with_reducible first | exact HB.out | apply z2q | apply z0q | apply z1q) | exact HB.out)) hb); have n1_ := Aside0.mk (hbox); have n2_ := Aside0.mk ((by rw [hg]; exact (z12q (by repeat (first | (with_reducible first | exact HB.out | apply z2q | apply z0q | apply z1q) | exact HB.out))) : w.heap.size ≤ gb287)); have n3_ := Aside0.mk ((by rw [hg]; exact (z12q (by repeat (first | (with_reducible first | exact HB.out | apply z2q | apply z0q | apply z1q) | exact HB.out))) : w.heap.size ≤ gb287)); clear HB; have HB := n0_; have BK287 := n1_; have GW287 := n2_; have GE287 := n3_; clear n0_ n1_ n2_ n3_; clear hb hbox hg; have hcz40_0 : w39.cell? ⟨gb287, 0, none⟩ = some (.int .i64 0) := (z7q BK287.out 0).trans rfl; have hcz40_1 : w39.cell? ⟨gb287, 1, none⟩ = some (.int .i64 0) := (z7q BK287.out 1).trans rfl; have hcz40_2 : w39.cell? ⟨gb287, 2, none⟩ = some (.int .i64 0) := (z7q BK287.out 2).trans rfl; have hfz40_0 := z8q BK287.out 0; have hfz40_1 := z8q BK287.out 1; have hfz40_2 := z8q BK287.out 2))
              go_ret2
              exact ⟨by first | rfl | (simp [errW_none, errW_some] <;> rfl) | (simp only [← hji6, ← hji10, ← hji15]; first | rfl | (simp [errW_none, errW_some] <;> rfl)) | (simp [*, errW_none, errW_some] <;> rfl), by repeat (first | (with_reducible first | exact HB.out | apply z2q | apply z0q | apply z1q | refine z3q ?_ GE287.out) | exact HB.out)⟩
            ·have H1 : (some (0, false)) = some (r1, r2) := by rw [if_neg (show ¬ (some q289).isNone = true by simp)] at H; exact H
             clear H
             have H := H1
             clear H1
             try simp only [errW_none, errW_some]
             simp only [Option.some.injEq, Prod.mk.injEq] at H
             obtain ⟨rfl, rfl⟩ := H
             go_wp2_with (first | ((with_reducible refine z9q (f := 69) rfl ?_); refine z17q (some 27) rfl rfl Tryd.func69 (by kernel_rfl) rfl #[.string (a1.extract 0 ((ji6) : Int).toNat)] rfl (by (try simp only [map_toArray, map_cons, map_nil]); first | done | (simp only [hji6]; rfl) | rfl | (simp only [length_drop, length_take]; rfl)) ?_; (with_reducible refine (strconv_Atoi.calls (a1.extract 0 ((ji6) : Int).toNat) t281 none _ (hT.below (by repeat (first | exact HB.out | exact Below.refl _ _ | apply z2q | apply z0q | apply z1q | refine z3q ?_ GE287.out))) A9.out).mono ?_); rintro e w41 ⟨ev_w41, rfl, hb, hev_w41⟩; (try (first | (obtain rfl : ev_w41 = Value.nilIface := hev_w41.out) | (obtain ⟨N_w41, rfl⟩ := hev_w41.out))); refine ⟨_, rfl, ?_⟩; have n0_ := Aside0.mk (z11q (by repeat (first | (with_reducible first | exact HB.out | apply z2q | apply z0q | apply z1q) | exact HB.out)) hb); clear HB; have HB := n0_; clear n0_; (try clear hb); (try clear hb2); (try clear hk); (try clear hi); (try simp only [errW_none, errW_some])) | ((with_reducible refine z9q (f := 69) rfl ?_); refine z17q (some 37) rfl rfl Tryd.func69 (by kernel_rfl) rfl #[.string (a1.extract ((ji10) : Int).toNat ((wrap64 ((a1.size : Int) - 3)) : Int).toNat)] rfl (by (try simp only [map_toArray, map_cons, map_nil]); first | done | (simp only [hji10]; rfl) | rfl | (simp only [length_drop, length_take]; rfl)) ?_; (with_reducible refine (strconv_Atoi.calls (a1.extract ((ji10) : Int).toNat ((wrap64 ((a1.size : Int) - 3)) : Int).toNat) t283 (some q289) _ (hT.below (by repeat (first | exact HB.out | exact Below.refl _ _ | apply z2q | apply z0q | apply z1q | refine z3q ?_ GE287.out))) A14.out).mono ?_); rintro e w42 ⟨ev_w42, rfl, hb, hev_w42⟩; (try (first | (obtain rfl : ev_w42 = Value.nilIface := hev_w42.out) | (obtain ⟨N_w42, rfl⟩ := hev_w42.out))); refine ⟨_, rfl, ?_⟩; have n0_ := Aside0.mk (z11q (by repeat (first | (with_reducible first | exact HB.out | apply z2q | apply z0q | apply z1q) | exact HB.out)) hb); clear HB; have HB := n0_; clear n0_; (try clear hb); (try clear hb2); (try clear hk); (try clear hi); (try simp only [errW_none, errW_some])) | ((with_reducible refine z9q (f := 69) rfl ?_); refine z17q (some 45) rfl rfl Tryd.func69 (by kernel_rfl) rfl #[.string (a1.extract ((ji15) : Int).toNat a1.size)] rfl (by (try simp only [map_toArray, map_cons, map_nil]); first | done | (simp only [hji15]; rfl) | rfl | (simp only [length_drop, length_take]; rfl)) ?_; (with_reducible refine (strconv_Atoi.calls (a1.extract ((ji15) : Int).toNat a1.size) t285 t286 _ (hT.below (by repeat (first | exact HB.out | exact Below.refl _ _ | apply z2q | apply z0q | apply z1q | refine z3q ?_ GE287.out))) A18.out).mono ?_); rintro e w43 ⟨ev_w43, rfl, hb, hev_w43⟩; (try (first | (obtain rfl : ev_w43 = Value.nilIface := hev_w43.out) | (obtain ⟨N_w43, rfl⟩ := hev_w43.out))); refine ⟨_, rfl, ?_⟩; have n0_ := Aside0.mk (z11q (by repeat (first | (with_reducible first | exact HB.out | apply z2q | apply z0q | apply z1q) | exact HB.out)) hb); clear HB; have HB := n0_; clear n0_; (try clear hb); (try clear hb2); (try clear hk); (try clear hi); (try simp only [errW_none, errW_some])) | ((with_reducible refine z22q (N := 13) rfl ?_); refine z20q ?hg (N := 13) ?hd (cs := #[.int .i64 0, .int .i64 0, .int .i64 0]) (t := 36) ?hr ?_; (case hd => rfl); (case hg => rfl); (case hr => first | (go_simp; done) | (go_simp; rfl)); intro gb287 hg w44 hbox hb; have n0_ := Aside0.mk (z11q (by repeat (first | (with_reducible first | exact HB.out | apply z2q | apply z0q | apply z1q) | exact HB.out)) hb); have n1_ := Aside0.mk (hbox); have n2_ := Aside0.mk ((by rw [hg]; exact (z12q (by repeat (first | (with_reducible first | exact HB.out | apply z2q | apply z0q | apply z1q) | exact HB.out))) : w.heap.size ≤ gb287)); have n3_ := Aside0.mk ((by rw [hg]; exact (z12q (by repeat (first | (with_reducible first | exact HB.out | apply z2q | apply z0q | apply z1q) | exact HB.out))) : w.heap.size ≤ gb287)); clear HB; have HB := n0_; have BK287 := n1_; have GW287 := n2_; have GE287 := n3_; clear n0_ n1_ n2_ n3_; clear hb hbox hg; have hcz45_0 : w44.cell? ⟨gb287, 0, none⟩ = some (.int .i64 0) := (z7q BK287.out 0).trans rfl; have hcz45_1 : w44.cell? ⟨gb287, 1, none⟩ = some (.int .i64 0) := (z7q BK287.out 1).trans rfl; have hcz45_2 : w44.cell? ⟨gb287, 2, none⟩ = some (.int .i64 0) := (z7q BK287.out 2).trans rfl; have hfz45_0 := z8q BK287.out 0; have hfz45_1 := z8q BK287.out 1; have hfz45_2 := z8q BK287.out 2))
             go_ret2
             exact ⟨by first | rfl | (simp [errW_none, errW_some] <;> rfl) | (simp only [← hji6, ← hji10, ← hji15]; first | rfl | (simp [errW_none, errW_some] <;> rfl)) | (simp [*, errW_none, errW_some] <;> rfl), by repeat (first | (with_reducible first | exact HB.out | apply z2q | apply z0q | apply z1q | refine z3q ?_ GE287.out) | exact HB.out)⟩
           ·have H1 : (some (0, false)) = some (r1, r2) := by rw [if_neg (show ¬ (some q288).isNone = true by simp)] at H; exact H
            clear H
            have H := H1
            clear H1
            try simp only [errW_none, errW_some]
            simp only [Option.some.injEq, Prod.mk.injEq] at H
            obtain ⟨rfl, rfl⟩ := H
            go_wp2_with (first | ((with_reducible refine z9q (f := 69) rfl ?_); refine z17q (some 27) rfl rfl Tryd.func69 (by kernel_rfl) rfl #[.string (a1.extract 0 ((ji6) : Int).toNat)] rfl (by (try simp only [map_toArray, map_cons, map_nil]); first | done | (simp only [hji6]; rfl) | rfl | (simp only [length_drop, length_take]; rfl)) ?_; (with_reducible refine (strconv_Atoi.calls (a1.extract 0 ((ji6) : Int).toNat) t281 (some q288) _ (hT.below (by repeat (first | exact HB.out | exact Below.refl _ _ | apply z2q | apply z0q | apply z1q | refine z3q ?_ GE287.out))) A9.out).mono ?_); rintro e w46 ⟨ev_w46, rfl, hb, hev_w46⟩; (try (first | (obtain rfl : ev_w46 = Value.nilIface := hev_w46.out) | (obtain ⟨N_w46, rfl⟩ := hev_w46.out))); refine ⟨_, rfl, ?_⟩; have n0_ := Aside0.mk (z11q (by repeat (first | (with_reducible first | exact HB.out | apply z2q | apply z0q | apply z1q) | exact HB.out)) hb); clear HB; have HB := n0_; clear n0_; (try clear hb); (try clear hb2); (try clear hk); (try clear hi); (try simp only [errW_none, errW_some])) | ((with_reducible refine z9q (f := 69) rfl ?_); refine z17q (some 37) rfl rfl Tryd.func69 (by kernel_rfl) rfl #[.string (a1.extract ((ji10) : Int).toNat ((wrap64 ((a1.size : Int) - 3)) : Int).toNat)] rfl (by (try simp only [map_toArray, map_cons, map_nil]); first | done | (simp only [hji10]; rfl) | rfl | (simp only [length_drop, length_take]; rfl)) ?_; (with_reducible refine (strconv_Atoi.calls (a1.extract ((ji10) : Int).toNat ((wrap64 ((a1.size : Int) - 3)) : Int).toNat) t283 t284 _ (hT.below (by repeat (first | exact HB.out | exact Below.refl _ _ | apply z2q | apply z0q | apply z1q | refine z3q ?_ GE287.out))) A14.out).mono ?_); rintro e w47 ⟨ev_w47, rfl, hb, hev_w47⟩; (try (first | (obtain rfl : ev_w47 = Value.nilIface := hev_w47.out) | (obtain ⟨N_w47, rfl⟩ := hev_w47.out))); refine ⟨_, rfl, ?_⟩; have n0_ := Aside0.mk (z11q (by repeat (first | (with_reducible first | exact HB.out | apply z2q | apply z0q | apply z1q) | exact HB.out)) hb); clear HB; have HB := n0_; clear n0_; (try clear hb); (try clear hb2); (try clear hk); (try clear hi); (try simp only [errW_none, errW_some])) | ((with_reducible refine z9q (f := 69) rfl ?_); refine z17q (some 45) rfl rfl Tryd.func69 (by kernel_rfl) rfl #[.string (a1.extract ((ji15) : Int).toNat a1.size)] rfl (by (try simp only [map_toArray, map_cons, map_nil]); first | done | (simp only [hji15]; rfl) | rfl | (simp only [length_drop, length_take]; rfl)) ?_; (with_reducible refine (strconv_Atoi.calls (a1.extract ((ji15) : Int).toNat a1.size) t285 t286 _ (hT.below (by repeat (first | exact HB.out | exact Below.refl _ _ | apply z2q | apply z0q | apply z1q | refine z3q ?_ GE287.out))) A18.out).mono ?_); rintro e w48 ⟨ev_w48, rfl, hb, hev_w48⟩; (try (first | (obtain rfl : ev_w48 = Value.nilIface := hev_w48.out) | (obtain ⟨N_w48, rfl⟩ := hev_w48.out))); refine ⟨_, rfl, ?_⟩; have n0_ := Aside0.mk (z11q (by repeat (first | (with_reducible first | exact HB.out | apply z2q | apply z0q | apply z1q) | exact HB.out)) hb); clear HB; have HB := n0_; clear n0_; (try clear hb); (try clear hb2); (try clear hk); (try clear hi); (try simp only [errW_none, errW_some])) | ((with_reducible refine z22q (N := 13) rfl ?_); refine z20q ?hg (N := 13) ?hd (cs := #[.int .i64 0, .int .i64 0, .int .i64 0]) (t := 36) ?hr ?_; (case hd => rfl); (case hg => rfl); (case hr => first | (go_simp; done) | (go_simp; rfl)); intro gb287 hg w49 hbox hb; have n0_ := Aside0.mk (z11q (by repeat (first | (with_reducible first | exact HB.out | apply z2q | apply z0q | apply z1q) | exact HB.out)) hb); have n1_ := Aside0.mk (hbox); have n2_ := Aside0.mk ((by rw [hg]; exact (z12q (by repeat (first | (with_reducible first | exact HB.out | apply z2q | apply z0q | apply z1q) | exact HB.out))) : w.heap.size ≤ gb287)); have n3_ := Aside0.mk ((by rw [hg]; exact (z12q (by repeat (first | (with_reducible first | exact HB.out | apply z2q | apply z0q | apply z1q) | exact HB.out))) : w.heap.size ≤ gb287)); clear HB; have HB := n0_; have BK287 := n1_; have GW287 := n2_; have GE287 := n3_; clear n0_ n1_ n2_ n3_; clear hb hbox hg; have hcz50_0 : w49.cell? ⟨gb287, 0, none⟩ = some (.int .i64 0) := (z7q BK287.out 0).trans rfl; have hcz50_1 : w49.cell? ⟨gb287, 1, none⟩ = some (.int .i64 0) := (z7q BK287.out 1).trans rfl; have hcz50_2 : w49.cell? ⟨gb287, 2, none⟩ = some (.int .i64 0) := (z7q BK287.out 2).trans rfl; have hfz50_0 := z8q BK287.out 0; have hfz50_1 := z8q BK287.out 1; have hfz50_2 := z8q BK287.out 2))
            go_ret2
            exact ⟨by first | rfl | (simp [errW_none, errW_some] <;> rfl) | (simp only [← hji6, ← hji10, ← hji15]; first | rfl | (simp [errW_none, errW_some] <;> rfl)) | (simp [*, errW_none, errW_some] <;> rfl), by repeat (first | (with_reducible first | exact HB.out | apply z2q | apply z0q | apply z1q | refine z3q ?_ GE287.out) | exact HB.out)⟩
          ·rw [if_neg c17] at H
           exact absurd H (by simp)
         ·rw [if_neg c16] at H
          exact absurd H (by simp)
        ·rw [if_neg c13] at H
         exact absurd H (by simp)
       ·rw [if_neg c12] at H
        exact absurd H (by simp)
      ·rw [if_neg c11] at H
       exact absurd H (by simp)
     ·rw [if_neg c8] at H
      exact absurd H (by simp)
    ·rw [if_neg c7] at H
     exact absurd H (by simp)

set_option maxHeartbeats 8000000 in
set_option maxRecDepth 100000 in
theorem impl_ReadDate.calls (k : Nat) (a0 : Int) (a1 : ByteArray) (r1 : Int) (r2 : Bool) (w : World) (hT : Tab w) (h : impl_ReadDate.f k a0 a1 = some (r1, r2)) :
  Calls Tryd.prog 26 #[.int .i64 a0, .string a1] w fun e w' => e = .returned (.tuple #[.int .i64 r1, .bool r2]) ∧ Below w.heap.size w w' := by
 have H : (if (a1.size : Int) < 10 then (impl_ReadDate.j0 k a0 a1 (a1.size : Int) true) else (impl_ReadDate.j0 k a0 a1 (a1.size : Int) (decide ((a1.size : Int) > 11)))) = some (r1, r2) := h
 exact impl_ReadDate.calls_p1 k a0 a1 r1 r2 w hT H

/-! ### spec_l1Cur_date: function 70 -/

def spec_l1Cur_date.f (s0_0 : List Int) (s0_1 : Int) (s0_2 : Int) : Option (Int × Int × Int × Int × Int) := (spec_l1Cur_pick.f s0_0 s0_1 s0_2 140).bind fun bt295 => ((spec_l1Cur_pick.f s0_0 bt295.2.1 bt295.2.2 12).bind fun bt298 => ((spec_l1Cur_pick.f s0_0 bt298.2.1 bt298.2.2 31).bind fun bt301 => ((spec_l1Cur_pick.f s0_0 bt301.2.1 bt301.2.2 7).bind fun bt305 => (if bt305.1 = 0 then ((spec_l1Cur_pick.f s0_0 bt305.2.1 bt305.2.2 16000).bind fun bt308 => (some (wrap64 (bt308.1 - 5500), wrap64 (1 + bt298.1), wrap64 (1 + bt301.1), bt308.2.1, bt308.2.2))) else (if bt305.1 = 1 then ((spec_l1Cur_pick.f s0_0 bt305.2.1 bt305.2.2 14).bind fun bt311 => (some (wrap64 (1890 + bt295.1), bt311.1, wrap64 (1 + bt301.1), bt311.2.1, bt311.2.2))) else (if bt305.1 = 2 then ((spec_l1Cur_pick.f s0_0 bt305.2.1 bt305.2.2 30).bind fun bt314 => ((spec_l1Cur_pick.f s0_0 bt314.2.1 bt314.2.2 3).bind fun bt317 => (some (wrap64 (100 * (wrap64 (bt314.1 - 4))), 2, wrap64 (28 + bt317.1), bt317.2.1, bt317.2.2)))) else (some (wrap64 (1890 + bt295.1), wrap64 (1 + bt298.1), wrap64 (1 + bt301.1), bt305.2.1, bt305.2.2))))))))

end Go.Proofs.YtffamggcjijobaaDoor.PFnDays
