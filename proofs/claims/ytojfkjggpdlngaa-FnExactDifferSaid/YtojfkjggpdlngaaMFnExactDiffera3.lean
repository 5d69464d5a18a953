/- Functions of the program as Lean functions, and proofs that the Go code comes to their answers: for the law FnExactDiffer; made out of the print by a program of mine (compact.py). No conditions but each theorem's own. -/
import Derived.Test.YtojfkjggpdlngaaMFnExactDiffera0
import Derived.Test.YtojfkjggpdlngaaMFnExactDiffera2
namespace Go.Proofs.Ytojfkjggpdlngaa.PFnExactDiffer
open List (map_toArray map_cons map_nil length_drop length_take set_cons_zero set_cons_succ setIfInBounds_toArray)
open Go.RowKit Go.Proofs.YtojfkjggpdlngaaW.PrintWords Go.Proofs.YtojfkjggpdlngaaW.PrintLast Go.Proofs.YtojfkjggpdlngaaW.PrintMore
attribute [local go_sem] max2_int min2_int max_two min_two max_three min_three max_four min_four   -- for this text's walks alone
set_option linter.unusedVariables false
set_option linter.unusedSimpArgs false

attribute [local go_sem high] eqA107
abbrev bt3_0 : Array Bool := #[false, false, false, false, false, false, false, false, false, false, false, false, false, false, false, false, false, false, false, false, false, false, false, false, false, false]
abbrev bt3_1 : Array Bool := #[true, false, false, false, false, false, false, false, false, false, false, false, false, false, false, false, false, false, false, false, false, false, false, false, false, false]
abbrev bt3_2 : Array Bool := #[true, true, false, false, false, false, false, false, false, false, false, false, false, false, false, false, false, false, false, false, false, false, false, false, false, false]
abbrev bt3_3 : Array Bool := #[true, true, true, false, false, false, false, false, false, false, false, false, false, false, false, false, false, false, false, false, false, false, false, false, false, false]
abbrev bt3_4 : Array Bool := #[true, true, true, true, false, false, false, false, false, false, false, false, false, false, false, false, false, false, false, false, false, false, false, false, false, false]
abbrev bt3_5 : Array Bool := #[true, true, true, true, true, false, false, false, false, false, false, false, false, false, false, false, false, false, false, false, false, false, false, false, false, false]
abbrev bt3_6 : Array Bool := #[true, true, true, true, true, false, true, false, false, false, false, false, false, false, false, false, false, false, false, false, false, false, false, false, false, false]
abbrev bt3_7 : Array Bool := #[true, true, true, true, true, false, true, true, false, false, false, false, false, false, false, false, false, false, false, false, false, false, false, false, false, false]
abbrev bt3_8 : Array Bool := #[true, true, true, true, true, false, true, true, true, false, false, false, false, false, false, false, false, false, false, false, false, false, false, false, false, false]
abbrev bt3_9 : Array Bool := #[true, true, true, true, true, false, true, true, true, true, false, false, false, false, false, false, false, false, false, false, false, false, false, false, false, false]
abbrev bt3_10 : Array Bool := #[true, true, true, true, true, false, true, true, true, true, true, false, false, false, false, false, false, false, false, false, false, false, false, false, false, false]
abbrev bt3_11 : Array Bool := #[true, true, true, true, true, false, true, true, true, true, true, false, false, true, false, false, false, false, false, false, false, false, false, false, false, false]
abbrev bt3_12 : Array Bool := #[true, true, true, true, true, false, true, true, true, true, true, false, false, true, true, false, false, false, false, false, false, false, false, false, false, false]
abbrev bt3_13 : Array Bool := #[true, true, true, true, true, false, true, true, true, true, true, false, false, true, true, true, false, false, false, false, false, false, false, false, false, false]
abbrev bt3_14 : Array Bool := #[true, true, true, true, true, false, true, true, true, true, true, false, false, true, true, true, true, false, false, false, false, false, false, false, false, false]
abbrev bt3_15 : Array Bool := #[true, true, true, true, true, false, true, true, true, true, true, false, false, true, true, true, true, false, true, false, false, false, false, false, false, false]
abbrev bt3_16 : Array Bool := #[true, true, true, true, true, false, true, true, true, true, true, false, false, true, true, true, true, false, true, true, false, false, false, false, false, false]
abbrev bt3_17 : Array Bool := #[true, true, true, true, true, false, true, true, true, true, true, false, false, true, true, true, true, false, true, true, true, false, false, false, false, false]
abbrev bt3_18 : Array Bool := #[true, true, true, true, true, false, true, true, true, true, true, false, false, true, true, true, true, false, true, true, true, true, false, false, false, false]
abbrev bt3_19 : Array Bool := #[true, true, true, true, true, true, true, true, true, true, true, false, false, true, true, true, true, false, true, true, true, true, false, false, false, false]
abbrev bt3_20 : Array Bool := #[true, true, true, true, true, true, true, true, true, true, true, true, false, true, true, true, true, false, true, true, true, true, false, false, false, false]
abbrev bt3_21 : Array Bool := #[true, true, true, true, true, true, true, true, true, true, true, true, true, true, true, true, true, false, true, true, true, true, false, false, false, false]
abbrev bt3_22 : Array Bool := #[true, true, true, true, true, true, true, true, true, true, true, true, true, true, true, true, true, true, true, true, true, true, false, false, false, false]
abbrev bt3_23 : Array Bool := #[true, true, true, true, true, true, true, true, true, true, true, true, true, true, true, true, true, true, true, true, true, true, true, false, false, false]
abbrev bt3_24 : Array Bool := #[true, true, true, true, true, true, true, true, true, true, true, true, true, true, true, true, true, true, true, true, true, true, true, true, false, false]
abbrev bt3_25 : Array Bool := #[true, true, true, true, true, true, true, true, true, true, true, true, true, true, true, true, true, true, true, true, true, true, true, true, true, false]
abbrev bt3_26 : Array Bool := #[true, true, true, true, true, true, true, true, true, true, true, true, true, true, true, true, true, true, true, true, true, true, true, true, true, true]
set_option maxHeartbeats 100000000 in
set_option maxRecDepth 100000 in
theorem impl_rising.calls_p1 (k : Nat) (A0 : Option Addr) (c0 : Nat) (l0 : List (S107)) (r : Bool) (w : World) (hr0 : Kd.C k107 w A0 l0.length l0) (hc0 : l0.length ≤ c0) (H : (impl_rising.l0 k l0 1) = some r) :
  Calls Try.prog 71 #[.slice A0 l0.length c0] w fun e w' => e = .returned (.bool r) ∧ Below w.heap.size w w' := by
 have hu75 := Try.underlying75
 have HR0 := Aside0.mk hr0
 have HC0 := Aside0.mk hc0
 clear hr0 hc0
 have HB := Aside0.mk (Below.refl w.heap.size w)
 have H' := Aside0.mk H
 clear H
 go_enter Try.func71, Try.ntmps71
 go_wp2
 go_loopg [3] k (fun kq v3 w' => ∃ (x3_1 : Int), v3 = .int .i64 x3_1 ∧ Aside0 (impl_rising.l0 kq l0 x3_1 = some r) ∧ Aside0 (kq ≤ k) ∧ Aside0 (Below w.heap.size w w'))
 case atStart => exact ⟨(1), (by first | rfl | (simp; done) | (simp [*]; done) | (simp; unfold wrap64; omega)), H', ⟨Nat.le_refl _⟩, ⟨by repeat (first | (with_reducible first | exact HB.out | apply z7q | apply z3q | apply z4q) | exact HB.out)⟩⟩
 case round =>
  clear H'
  obtain ⟨x3_1, rfl, HA, HK1, HB⟩ := hrel
  cases gk with
  | zero => exact absurd HA.out (by simp [impl_rising.l0])
  | succ k1 =>
   have H := HA.out
   clear HA
   simp only [impl_rising.l0] at H
   by_cases c2 : x3_1 < (l0.length : Int)
   ·rw [if_pos c2] at H
    have c2b0 : decide (x3_1 < (l0.length : Int)) = true := decide_eq_true c2
    clear c2
    obtain ⟨ji3, hji3⟩ : ∃ j_ : Int, (wrap64 (x3_1 - 1)) = j_ := ⟨_, rfl⟩
    replace H : (if 0 ≤ (ji3) then (if (ji3) < (l0.length : Int) then (if 0 ≤ x3_1 then ((impl_place_before.f ((rd_T107 l0 (ji3)).f0) ((rd_T107 l0 (ji3)).f1) ((rd_T107 l0 x3_1).f0) ((rd_T107 l0 x3_1).f1)).bind fun t170 => (if t170 = true then (impl_rising.l0 k1 l0 (wrap64 (x3_1 + 1))) else (some false))) else (none)) else (none)) else (none)) = some r := by first | (rw [hji3] at H; exact H) | (simp only [hji3] at H ⊢; exact H)
    have hji3w : (IntKind.i64.wrap (x3_1 - 1)) = ji3 := (i64_w _).trans hji3
    by_cases c4 : 0 ≤ (ji3)
    ·rw [if_pos c4] at H
     have c4b0 : decide (0 ≤ (ji3)) = true := decide_eq_true c4
     clear c4
     by_cases c5 : (ji3) < (l0.length : Int)
     ·rw [if_pos c5] at H
      have c5b0 : decide ((ji3) < (l0.length : Int)) = true := decide_eq_true c5
      clear c5
      by_cases c6 : 0 ≤ x3_1
      ·rw [if_pos c6] at H
       have c6b0 : decide (0 ≤ x3_1) = true := decide_eq_true c6
       clear c6
       replace H := Option.bind_eq_some_iff.mp H
       obtain ⟨t170, A70, H⟩ := H
       replace H : (if t170 = true then (impl_rising.l0 k1 l0 (wrap64 (x3_1 + 1))) else (some false)) = some r := H
       have A7 := Aside0.mk A70
       clear A70
       by_cases c8 : t170 = true
       ·subst c8
        have H1 : (impl_rising.l0 k1 l0 (wrap64 (x3_1 + 1))) = some r := by rw [if_pos rfl] at H; exact H
        clear H
        have H := H1
        clear H1
        have H' := Aside0.mk H
        clear H
        try go_wp2
        have n0_ := Aside0.mk (z4q HB.out)
        clear HB
        have HB := n0_
        clear n0_
        have p166 : 0 ≤ ((ji3) : Int) := of_decide_eq_true (by first | (with_reducible assumption) | assumption)
        have q166 : (ji3) < (l0.length : Int) := of_decide_eq_true (by first | (with_reducible assumption) | assumption)
        obtain ⟨ad166, e166, hx166_0, hx166_1, hx166_2, hx166_3, hx166_4, hx166_5, hx166_6, hx166_7⟩ := at_T107 HR0.out (ji3) p166 q166
        have hw166_7 := hx166_7
        have hw166_6 := hx166_6
        have hw166_5 := hx166_5
        have hw166_4 := hx166_4
        have hw166_3 := hx166_3
        have hw166_2 := hx166_2
        have hw166_1 := hx166_1
        have hw166_0 := hx166_0
        cases e166
        replace hx166_0 := (hbc HB.out hx166_0).trans hx166_0
        replace hx166_1 := (hbc HB.out hx166_1).trans hx166_1
        replace hx166_2 := (hbc HB.out hx166_2).trans hx166_2
        replace hx166_3 := (hbc HB.out hx166_3).trans hx166_3
        replace hx166_4 := (hbc HB.out hx166_4).trans hx166_4
        replace hx166_5 := (hbc HB.out hx166_5).trans hx166_5
        replace hx166_6 := (hbc HB.out hx166_6).trans hx166_6
        replace hx166_7 := (hbc HB.out hx166_7).trans hx166_7
        replace p166 := eq_true p166
        replace q166 := eq_true q166
        have p167 : 0 ≤ ((ji3) : Int) := of_decide_eq_true (by first | (with_reducible assumption) | assumption)
        have q167 : (ji3) < (l0.length : Int) := of_decide_eq_true (by first | (with_reducible assumption) | assumption)
        obtain ⟨ad167, e167, hx167_0, hx167_1, hx167_2, hx167_3, hx167_4, hx167_5, hx167_6, hx167_7⟩ := at_T107 HR0.out (ji3) p167 q167
        have hw167_7 := hx167_7
        have hw167_6 := hx167_6
        have hw167_5 := hx167_5
        have hw167_4 := hx167_4
        have hw167_3 := hx167_3
        have hw167_2 := hx167_2
        have hw167_1 := hx167_1
        have hw167_0 := hx167_0
        obtain rfl : ad166 = ad167 := (by injection e167)
        replace hx167_0 := (hbc HB.out hx167_0).trans hx167_0
        replace hx167_1 := (hbc HB.out hx167_1).trans hx167_1
        replace hx167_2 := (hbc HB.out hx167_2).trans hx167_2
        replace hx167_3 := (hbc HB.out hx167_3).trans hx167_3
        replace hx167_4 := (hbc HB.out hx167_4).trans hx167_4
        replace hx167_5 := (hbc HB.out hx167_5).trans hx167_5
        replace hx167_6 := (hbc HB.out hx167_6).trans hx167_6
        replace hx167_7 := (hbc HB.out hx167_7).trans hx167_7
        replace p167 := eq_true p167
        replace q167 := eq_true q167
        have p168 : 0 ≤ (x3_1 : Int) := of_decide_eq_true (by first | (with_reducible assumption) | assumption)
        have q168 : x3_1 < (l0.length : Int) := of_decide_eq_true (by first | (with_reducible assumption) | assumption)
        obtain ⟨ad168, e168, hx168_0, hx168_1, hx168_2, hx168_3, hx168_4, hx168_5, hx168_6, hx168_7⟩ := at_T107 HR0.out x3_1 p168 q168
        have hw168_7 := hx168_7
        have hw168_6 := hx168_6
        have hw168_5 := hx168_5
        have hw168_4 := hx168_4
        have hw168_3 := hx168_3
        have hw168_2 := hx168_2
        have hw168_1 := hx168_1
        have hw168_0 := hx168_0
        obtain rfl : ad166 = ad168 := (by injection e168)
        replace hx168_0 := (hbc HB.out hx168_0).trans hx168_0
        replace hx168_1 := (hbc HB.out hx168_1).trans hx168_1
        replace hx168_2 := (hbc HB.out hx168_2).trans hx168_2
        replace hx168_3 := (hbc HB.out hx168_3).trans hx168_3
        replace hx168_4 := (hbc HB.out hx168_4).trans hx168_4
        replace hx168_5 := (hbc HB.out hx168_5).trans hx168_5
        replace hx168_6 := (hbc HB.out hx168_6).trans hx168_6
        replace hx168_7 := (hbc HB.out hx168_7).trans hx168_7
        replace p168 := eq_true p168
        replace q168 := eq_true q168
        have p169 : 0 ≤ (x3_1 : Int) := of_decide_eq_true (by first | (with_reducible assumption) | assumption)
        have q169 : x3_1 < (l0.length : Int) := of_decide_eq_true (by first | (with_reducible assumption) | assumption)
        obtain ⟨ad169, e169, hx169_0, hx169_1, hx169_2, hx169_3, hx169_4, hx169_5, hx169_6, hx169_7⟩ := at_T107 HR0.out x3_1 p169 q169
        have hw169_7 := hx169_7
        have hw169_6 := hx169_6
        have hw169_5 := hx169_5
        have hw169_4 := hx169_4
        have hw169_3 := hx169_3
        have hw169_2 := hx169_2
        have hw169_1 := hx169_1
        have hw169_0 := hx169_0
        obtain rfl : ad166 = ad169 := (by injection e169)
        replace hx169_0 := (hbc HB.out hx169_0).trans hx169_0
        replace hx169_1 := (hbc HB.out hx169_1).trans hx169_1
        replace hx169_2 := (hbc HB.out hx169_2).trans hx169_2
        replace hx169_3 := (hbc HB.out hx169_3).trans hx169_3
        replace hx169_4 := (hbc HB.out hx169_4).trans hx169_4
        replace hx169_5 := (hbc HB.out hx169_5).trans hx169_5
        replace hx169_6 := (hbc HB.out hx169_6).trans hx169_6
        replace hx169_7 := (hbc HB.out hx169_7).trans hx169_7
        replace p169 := eq_true p169
        replace q169 := eq_true q169
        refine start_ (n := 26) (S := fun w' => w'.cell? (ad166.add (((ji3)).toNat * 8)) = some (.int .i64 ((rd_T107 l0 (ji3)).f0)) ∧ w'.cell? ⟨(ad166.add (((ji3)).toNat * 8)).block, (ad166.add (((ji3)).toNat * 8)).off + 1, none⟩ = some (.int .i64 ((rd_T107 l0 (ji3)).f1)) ∧ w'.cell? ⟨(ad166.add (((ji3)).toNat * 8)).block, (ad166.add (((ji3)).toNat * 8)).off + 2, none⟩ = some (.int .i64 ((rd_T107 l0 (ji3)).f2.f0)) ∧ w'.cell? ⟨(ad166.add (((ji3)).toNat * 8)).block, (ad166.add (((ji3)).toNat * 8)).off + 3, none⟩ = some (.bool ((rd_T107 l0 (ji3)).f2.f1.f0)) ∧ w'.cell? ⟨(ad166.add (((ji3)).toNat * 8)).block, (ad166.add (((ji3)).toNat * 8)).off + 4, none⟩ = some (.int .i64 ((rd_T107 l0 (ji3)).f2.f1.f1)) ∧ w'.cell? ⟨(ad166.add (((ji3)).toNat * 8)).block, (ad166.add (((ji3)).toNat * 8)).off + 5, none⟩ = some (.int .i64 ((rd_T107 l0 (ji3)).f2.f1.f2)) ∧ w'.cell? ⟨(ad166.add (((ji3)).toNat * 8)).block, (ad166.add (((ji3)).toNat * 8)).off + 6, none⟩ = some (.string ((rd_T107 l0 (ji3)).f2.f2)) ∧ w'.cell? ⟨(ad166.add (((ji3)).toNat * 8)).block, (ad166.add (((ji3)).toNat * 8)).off + 7, none⟩ = some (.bool ((rd_T107 l0 (ji3)).f3)) ∧ w'.cell? (ad166.add (((ji3)).toNat * 8)) = some (.int .i64 ((rd_T107 l0 (ji3)).f0)) ∧ w'.cell? ⟨(ad166.add (((ji3)).toNat * 8)).block, (ad166.add (((ji3)).toNat * 8)).off + 1, none⟩ = some (.int .i64 ((rd_T107 l0 (ji3)).f1)) ∧ w'.cell? ⟨(ad166.add (((ji3)).toNat * 8)).block, (ad166.add (((ji3)).toNat * 8)).off + 2, none⟩ = some (.int .i64 ((rd_T107 l0 (ji3)).f2.f0)) ∧ w'.cell? ⟨(ad166.add (((ji3)).toNat * 8)).block, (ad166.add (((ji3)).toNat * 8)).off + 3, none⟩ = some (.bool ((rd_T107 l0 (ji3)).f2.f1.f0)) ∧ w'.cell? ⟨(ad166.add (((ji3)).toNat * 8)).block, (ad166.add (((ji3)).toNat * 8)).off + 4, none⟩ = some (.int .i64 ((rd_T107 l0 (ji3)).f2.f1.f1)) ∧ w'.cell? ⟨(ad166.add (((ji3)).toNat * 8)).block, (ad166.add (((ji3)).toNat * 8)).off + 5, none⟩ = some (.int .i64 ((rd_T107 l0 (ji3)).f2.f1.f2)) ∧ w'.cell? ⟨(ad166.add (((ji3)).toNat * 8)).block, (ad166.add (((ji3)).toNat * 8)).off + 6, none⟩ = some (.string ((rd_T107 l0 (ji3)).f2.f2)) ∧ w'.cell? ⟨(ad166.add (((ji3)).toNat * 8)).block, (ad166.add (((ji3)).toNat * 8)).off + 7, none⟩ = some (.bool ((rd_T107 l0 (ji3)).f3)) ∧ w'.cell? (ad166.add ((x3_1).toNat * 8)) = some (.int .i64 ((rd_T107 l0 x3_1).f0)) ∧ w'.cell? ⟨(ad166.add ((x3_1).toNat * 8)).block, (ad166.add ((x3_1).toNat * 8)).off + 1, none⟩ = some (.int .i64 ((rd_T107 l0 x3_1).f1)) ∧ w'.cell? ⟨(ad166.add ((x3_1).toNat * 8)).block, (ad166.add ((x3_1).toNat * 8)).off + 2, none⟩ = some (.int .i64 ((rd_T107 l0 x3_1).f2.f0)) ∧ w'.cell? ⟨(ad166.add ((x3_1).toNat * 8)).block, (ad166.add ((x3_1).toNat * 8)).off + 3, none⟩ = some (.bool ((rd_T107 l0 x3_1).f2.f1.f0)) ∧ w'.cell? ⟨(ad166.add ((x3_1).toNat * 8)).block, (ad166.add ((x3_1).toNat * 8)).off + 4, none⟩ = some (.int .i64 ((rd_T107 l0 x3_1).f2.f1.f1)) ∧ w'.cell? ⟨(ad166.add ((x3_1).toNat * 8)).block, (ad166.add ((x3_1).toNat * 8)).off + 5, none⟩ = some (.int .i64 ((rd_T107 l0 x3_1).f2.f1.f2)) ∧ w'.cell? ⟨(ad166.add ((x3_1).toNat * 8)).block, (ad166.add ((x3_1).toNat * 8)).off + 6, none⟩ = some (.string ((rd_T107 l0 x3_1).f2.f2)) ∧ w'.cell? ⟨(ad166.add ((x3_1).toNat * 8)).block, (ad166.add ((x3_1).toNat * 8)).off + 7, none⟩ = some (.bool ((rd_T107 l0 x3_1).f3)) ∧ w'.cell? (ad166.add ((x3_1).toNat * 8)) = some (.int .i64 ((rd_T107 l0 x3_1).f0)) ∧ w'.cell? ⟨(ad166.add ((x3_1).toNat * 8)).block, (ad166.add ((x3_1).toNat * 8)).off + 1, none⟩ = some (.int .i64 ((rd_T107 l0 x3_1).f1)) ∧ w'.cell? ⟨(ad166.add ((x3_1).toNat * 8)).block, (ad166.add ((x3_1).toNat * 8)).off + 2, none⟩ = some (.int .i64 ((rd_T107 l0 x3_1).f2.f0)) ∧ w'.cell? ⟨(ad166.add ((x3_1).toNat * 8)).block, (ad166.add ((x3_1).toNat * 8)).off + 3, none⟩ = some (.bool ((rd_T107 l0 x3_1).f2.f1.f0)) ∧ w'.cell? ⟨(ad166.add ((x3_1).toNat * 8)).block, (ad166.add ((x3_1).toNat * 8)).off + 4, none⟩ = some (.int .i64 ((rd_T107 l0 x3_1).f2.f1.f1)) ∧ w'.cell? ⟨(ad166.add ((x3_1).toNat * 8)).block, (ad166.add ((x3_1).toNat * 8)).off + 5, none⟩ = some (.int .i64 ((rd_T107 l0 x3_1).f2.f1.f2)) ∧ w'.cell? ⟨(ad166.add ((x3_1).toNat * 8)).block, (ad166.add ((x3_1).toNat * 8)).off + 6, none⟩ = some (.string ((rd_T107 l0 x3_1).f2.f2)) ∧ w'.cell? ⟨(ad166.add ((x3_1).toNat * 8)).block, (ad166.add ((x3_1).toNat * 8)).off + 7, none⟩ = some (.bool ((rd_T107 l0 x3_1).f3))) (ds := []) bt3_0 (by kernel_rfl) rfl rfl ⟨(hbt HB.out hw166_0), (hbt HB.out hw166_1), (hbt HB.out hw166_2), (hbt HB.out hw166_3), (hbt HB.out hw166_4), (hbt HB.out hw166_5), (hbt HB.out hw166_6), (hbt HB.out hw166_7), (hbt HB.out hw167_0), (hbt HB.out hw167_1), (hbt HB.out hw167_2), (hbt HB.out hw167_3), (hbt HB.out hw167_4), (hbt HB.out hw167_5), (hbt HB.out hw167_6), (hbt HB.out hw167_7), (hbt HB.out hw168_0), (hbt HB.out hw168_1), (hbt HB.out hw168_2), (hbt HB.out hw168_3), (hbt HB.out hw168_4), (hbt HB.out hw168_5), (hbt HB.out hw168_6), (hbt HB.out hw168_7), (hbt HB.out hw169_0), (hbt HB.out hw169_1), (hbt HB.out hw169_2), (hbt HB.out hw169_3), (hbt HB.out hw169_4), (hbt HB.out hw169_5), (hbt HB.out hw169_6), (hbt HB.out hw169_7)⟩ (fun hHeld => ?_); refine with_tabW impl_rising.tab4 impl_rising.bits4 (fun HT_ HW_ => ?_)
        generalize wr.drew = w9 at HB hx166_0 hx166_1 hx166_2 hx166_3 hx166_4 hx166_5 hx166_6 hx166_7 hx167_0 hx167_1 hx167_2 hx167_3 hx167_4 hx167_5 hx167_6 hx167_7 hx168_0 hx168_1 hx168_2 hx168_3 hx168_4 hx168_5 hx168_6 hx168_7 hx169_0 hx169_1 hx169_2 hx169_3 hx169_4 hx169_5 hx169_6 hx169_7 hHeld ⊢
        refine pure_ (i := 0) (N := some 10) (v := ?_) (a' := ?_) bt3_1 rfl rfl (z8q HT_.out (by kernel_rfl)) (fun _ _ _ h => h) (Or.inl ⟨by rfl, ?_⟩) ?_ ?_
        rotate_left
        ·intro w'
         go_simp
         with_reducible rfl
        rotate_left
        ·simp only [Act.put, setIfInBounds_toArray, set_cons_zero, set_cons_succ, i64_w, i32_w]
         rfl
        refine pure_ (i := 1) (N := some 11) (v := ?_) (a' := ?_) bt3_2 rfl rfl (z8q HT_.out (by kernel_rfl)) (fun _ _ _ h => h) (Or.inl ⟨by rfl, ?_⟩) ?_ ?_
        rotate_left
        ·intro w'
         go_simp
         with_reducible rfl
        rotate_left
        ·simp only [Act.put, setIfInBounds_toArray, set_cons_zero, set_cons_succ, i64_w, i32_w]
         rfl
        refine pure_ (i := 2) (N := some 12) (v := ?_) (a' := ?_) bt3_3 rfl rfl (z8q HT_.out (by kernel_rfl)) (fun _ _ _ h => h) (Or.inl ⟨by rfl, ?_⟩) ?_ ?_
        rotate_left
        ·intro w'
         go_simp
         with_reducible rfl
        rotate_left
        ·simp only [Act.put, setIfInBounds_toArray, set_cons_zero, set_cons_succ, i64_w, i32_w]
         rfl
        refine pure_ (i := 3) (N := some 13) (v := ?_) (a' := ?_) bt3_4 rfl rfl (z8q HT_.out (by kernel_rfl)) (fun _ _ _ h => h) (Or.inl ⟨by rfl, ?_⟩) ?_ ?_
        rotate_left
        ·intro w'
         go_simp
         with_reducible rfl
        rotate_left
        ·simp only [Act.put, setIfInBounds_toArray, set_cons_zero, set_cons_succ, i64_w, i32_w]
         rfl
        refine pure_ (i := 4) (N := some 14) (v := ?_) (a' := ?_) bt3_5 rfl rfl (z8q HT_.out (by kernel_rfl)) (fun _ _ _ h => h) (Or.inl ⟨by rfl, ?_⟩) ?_ ?_
        rotate_left
        ·intro w'
         go_simp
         with_reducible rfl
        rotate_left
        ·simp only [Act.put, setIfInBounds_toArray, set_cons_zero, set_cons_succ, i64_w, i32_w]
         rfl
        refine pure_ (i := 6) (N := some 16) (v := ?_) (a' := ?_) bt3_6 rfl rfl (z8q HT_.out (by kernel_rfl)) (fun _ _ _ h => h) (Or.inl ⟨by rfl, ?_⟩) ?_ ?_
        rotate_left
        ·intro w'
         go_simp
         with_reducible rfl
        rotate_left
        ·simp only [Act.put, setIfInBounds_toArray, set_cons_zero, set_cons_succ, i64_w, i32_w]
         rfl
        refine pure_ (i := 7) (N := some 17) (v := ?_) (a' := ?_) bt3_7 rfl rfl (z8q HT_.out (by kernel_rfl)) (fun _ _ _ h => h) (Or.inl ⟨by rfl, ?_⟩) ?_ ?_
        rotate_left
        ·intro w'
         go_simp
         with_reducible rfl
        rotate_left
        ·simp only [Act.put, setIfInBounds_toArray, set_cons_zero, set_cons_succ, i64_w, i32_w]
         rfl
        refine pure_ (i := 8) (N := some 18) (v := ?_) (a' := ?_) bt3_8 rfl rfl (z8q HT_.out (by kernel_rfl)) (fun _ _ _ h => h) (Or.inl ⟨by rfl, ?_⟩) ?_ ?_
        rotate_left
        ·intro w'
         go_simp
         with_reducible rfl
        rotate_left
        ·simp only [Act.put, setIfInBounds_toArray, set_cons_zero, set_cons_succ, i64_w, i32_w]
         rfl
        refine pure_ (i := 9) (N := some 19) (v := ?_) (a' := ?_) bt3_9 rfl rfl (z8q HT_.out (by kernel_rfl)) (fun _ _ _ h => h) (Or.inl ⟨by rfl, ?_⟩) ?_ ?_
        rotate_left
        ·intro w'
         go_simp
         with_reducible rfl
        rotate_left
        ·simp only [Act.put, setIfInBounds_toArray, set_cons_zero, set_cons_succ, i64_w, i32_w]
         rfl
        refine pure_ (i := 10) (N := some 20) (v := ?_) (a' := ?_) bt3_10 rfl rfl (z8q HT_.out (by kernel_rfl)) (fun _ _ _ h => h) (Or.inl ⟨by rfl, ?_⟩) ?_ ?_
        rotate_left
        ·intro w'
         go_simp
         with_reducible rfl
        rotate_left
        ·simp only [Act.put, setIfInBounds_toArray, set_cons_zero, set_cons_succ, i64_w, i32_w]
         rfl
        refine pure_ (i := 13) (N := some 23) (v := ?_) (a' := ?_) bt3_11 rfl rfl (z8q HT_.out (by kernel_rfl)) (fun _ _ _ h => h) (Or.inl ⟨by rfl, ?_⟩) ?_ ?_
        rotate_left
        ·intro w'
         go_simp
         with_reducible rfl
        rotate_left
        ·simp only [Act.put, setIfInBounds_toArray, set_cons_zero, set_cons_succ, i64_w, i32_w]
         rfl
        refine pure_ (i := 14) (N := some 24) (v := ?_) (a' := ?_) bt3_12 rfl rfl (z8q HT_.out (by kernel_rfl)) (fun _ _ _ h => h) (Or.inl ⟨by rfl, ?_⟩) ?_ ?_
        rotate_left
        ·intro w'
         go_simp
         with_reducible rfl
        rotate_left
        ·simp only [Act.put, setIfInBounds_toArray, set_cons_zero, set_cons_succ, i64_w, i32_w]
         rfl
        refine pure_ (i := 15) (N := some 25) (v := ?_) (a' := ?_) bt3_13 rfl rfl (z8q HT_.out (by kernel_rfl)) (fun _ _ _ h => h) (Or.inl ⟨by rfl, ?_⟩) ?_ ?_
        rotate_left
        ·intro w'
         go_simp
         with_reducible rfl
        rotate_left
        ·simp only [Act.put, setIfInBounds_toArray, set_cons_zero, set_cons_succ, i64_w, i32_w]
         rfl
        refine pure_ (i := 16) (N := some 26) (v := ?_) (a' := ?_) bt3_14 rfl rfl (z8q HT_.out (by kernel_rfl)) (fun _ _ _ h => h) (Or.inl ⟨by rfl, ?_⟩) ?_ ?_
        rotate_left
        ·intro w'
         go_simp
         with_reducible rfl
        rotate_left
        ·simp only [Act.put, setIfInBounds_toArray, set_cons_zero, set_cons_succ, i64_w, i32_w]
         rfl
        refine pure_ (i := 18) (N := some 28) (v := ?_) (a' := ?_) bt3_15 rfl rfl (z8q HT_.out (by kernel_rfl)) (fun _ _ _ h => h) (Or.inl ⟨by rfl, ?_⟩) ?_ ?_
        rotate_left
        ·intro w'
         go_simp
         with_reducible rfl
        rotate_left
        ·simp only [Act.put, setIfInBounds_toArray, set_cons_zero, set_cons_succ, i64_w, i32_w]
         rfl
        refine pure_ (i := 19) (N := some 29) (v := ?_) (a' := ?_) bt3_16 rfl rfl (z8q HT_.out (by kernel_rfl)) (fun _ _ _ h => h) (Or.inl ⟨by rfl, ?_⟩) ?_ ?_
        rotate_left
        ·intro w'
         go_simp
         with_reducible rfl
        rotate_left
        ·simp only [Act.put, setIfInBounds_toArray, set_cons_zero, set_cons_succ, i64_w, i32_w]
         rfl
        refine pure_ (i := 20) (N := some 30) (v := ?_) (a' := ?_) bt3_17 rfl rfl (z8q HT_.out (by kernel_rfl)) (fun _ _ _ h => h) (Or.inl ⟨by rfl, ?_⟩) ?_ ?_
        rotate_left
        ·intro w'
         go_simp
         with_reducible rfl
        rotate_left
        ·simp only [Act.put, setIfInBounds_toArray, set_cons_zero, set_cons_succ, i64_w, i32_w]
         rfl
        refine pure_ (i := 21) (N := some 31) (v := ?_) (a' := ?_) bt3_18 rfl rfl (z8q HT_.out (by kernel_rfl)) (fun _ _ _ h => h) (Or.inl ⟨by rfl, ?_⟩) ?_ ?_
        rotate_left
        ·intro w'
         go_simp
         with_reducible rfl
        rotate_left
        ·simp only [Act.put, setIfInBounds_toArray, set_cons_zero, set_cons_succ, i64_w, i32_w]
         rfl
        refine take_ (i := 5) (N := some 15) (v := ?_) (a' := ?_) bt3_19 rfl rfl (z19q HT_.out HW_.out (by kernel_rfl)) (fun _ _ _ h => h) (Or.inl ⟨by rfl, ?_⟩) hHeld ?_ ?_
        rotate_left
        ·rintro w' ⟨s0, s1, s2, s3, s4, s5, s6, s7, s8, s9, s10, s11, s12, s13, s14, s15, s16, s17, s18, s19, s20, s21, s22, s23, s24, s25, s26, s27, s28, s29, s30, s31⟩
         go_simp
         with_reducible rfl
        rotate_left
        ·simp only [Act.put, setIfInBounds_toArray, set_cons_zero, set_cons_succ, i64_w, i32_w]
         rfl
        refine take_ (i := 11) (N := some 21) (v := ?_) (a' := ?_) bt3_20 rfl rfl (z19q HT_.out HW_.out (by kernel_rfl)) (fun _ _ _ h => h) (Or.inl ⟨by rfl, ?_⟩) hHeld ?_ ?_
        rotate_left
        ·rintro w' ⟨s0, s1, s2, s3, s4, s5, s6, s7, s8, s9, s10, s11, s12, s13, s14, s15, s16, s17, s18, s19, s20, s21, s22, s23, s24, s25, s26, s27, s28, s29, s30, s31⟩
         go_simp
         with_reducible rfl
        rotate_left
        ·simp only [Act.put, setIfInBounds_toArray, set_cons_zero, set_cons_succ, i64_w, i32_w]
         rfl
        refine pure_ (i := 12) (N := some 22) (v := ?_) (a' := ?_) bt3_21 rfl rfl (z8q HT_.out (by kernel_rfl)) (fun _ _ _ h => h) (Or.inl ⟨by rfl, ?_⟩) ?_ ?_
        rotate_left
        ·intro w'
         go_simp
         with_reducible rfl
        rotate_left
        ·simp only [Act.put, setIfInBounds_toArray, set_cons_zero, set_cons_succ, i64_w, i32_w]
         rfl
        refine take_ (i := 17) (N := some 27) (v := ?_) (a' := ?_) bt3_22 rfl rfl (z19q HT_.out HW_.out (by kernel_rfl)) (fun _ _ _ h => h) (Or.inl ⟨by rfl, ?_⟩) hHeld ?_ ?_
        rotate_left
        ·rintro w' ⟨s0, s1, s2, s3, s4, s5, s6, s7, s8, s9, s10, s11, s12, s13, s14, s15, s16, s17, s18, s19, s20, s21, s22, s23, s24, s25, s26, s27, s28, s29, s30, s31⟩
         go_simp
         with_reducible rfl
        rotate_left
        ·simp only [Act.put, setIfInBounds_toArray, set_cons_zero, set_cons_succ, i64_w, i32_w]
         rfl
        refine take_ (i := 22) (N := some 32) (v := ?_) (a' := ?_) bt3_23 rfl rfl (z19q HT_.out HW_.out (by kernel_rfl)) (fun _ _ _ h => h) (Or.inl ⟨by rfl, ?_⟩) hHeld ?_ ?_
        rotate_left
        ·rintro w' ⟨s0, s1, s2, s3, s4, s5, s6, s7, s8, s9, s10, s11, s12, s13, s14, s15, s16, s17, s18, s19, s20, s21, s22, s23, s24, s25, s26, s27, s28, s29, s30, s31⟩
         go_simp
         with_reducible rfl
        rotate_left
        ·simp only [Act.put, setIfInBounds_toArray, set_cons_zero, set_cons_succ, i64_w, i32_w]
         rfl
        refine pure_ (i := 23) (N := some 33) (v := ?_) (a' := ?_) bt3_24 rfl rfl (z8q HT_.out (by kernel_rfl)) (fun _ _ _ h => h) (Or.inl ⟨by rfl, ?_⟩) ?_ ?_
        rotate_left
        ·intro w'
         go_simp
         with_reducible rfl
        rotate_left
        ·simp only [Act.put, setIfInBounds_toArray, set_cons_zero, set_cons_succ, i64_w, i32_w]
         rfl
        refine one_ (i := 24) (N := some 34) bt3_25 rfl rfl (one_of HT_.out (by kernel_rfl)) (by decide) (fun K hK => ?_)
        refine goes_ Try.func72 (by kernel_rfl) rfl #[.agg #[.int .i64 ((rd_T107 l0 (ji3)).f0), .int .i64 ((rd_T107 l0 (ji3)).f1)], .agg #[.int .i64 ((rd_T107 l0 x3_1).f0), .int .i64 ((rd_T107 l0 x3_1).f1)]] (by rfl) rfl rfl (by (try simp only [map_toArray, map_cons, map_nil]); first | done | (simp only [hji3]; rfl) | rfl | (simp only [length_drop, length_take]; rfl)) ?_
        with_reducible refine (impl_place_before.calls ((rd_T107 l0 (ji3)).f0) ((rd_T107 l0 (ji3)).f1) ((rd_T107 l0 x3_1).f0) ((rd_T107 l0 x3_1).f1) true _ A7.out).mono ?_
        rintro e w10 ⟨rfl, hb⟩
        refine ⟨_, rfl, ?_⟩
        have n0_ := Aside0.mk (z6q (ibh HB.out) hb)
        clear HB
        have HB := n0_
        clear n0_
        (try clear hb)
        (try clear hb2)
        (try clear hk)
        (try clear hi)
        refine hK.out _ _ ⟨(hbt HB.out hw166_0), (hbt HB.out hw166_1), (hbt HB.out hw166_2), (hbt HB.out hw166_3), (hbt HB.out hw166_4), (hbt HB.out hw166_5), (hbt HB.out hw166_6), (hbt HB.out hw166_7), (hbt HB.out hw167_0), (hbt HB.out hw167_1), (hbt HB.out hw167_2), (hbt HB.out hw167_3), (hbt HB.out hw167_4), (hbt HB.out hw167_5), (hbt HB.out hw167_6), (hbt HB.out hw167_7), (hbt HB.out hw168_0), (hbt HB.out hw168_1), (hbt HB.out hw168_2), (hbt HB.out hw168_3), (hbt HB.out hw168_4), (hbt HB.out hw168_5), (hbt HB.out hw168_6), (hbt HB.out hw168_7), (hbt HB.out hw169_0), (hbt HB.out hw169_1), (hbt HB.out hw169_2), (hbt HB.out hw169_3), (hbt HB.out hw169_4), (hbt HB.out hw169_5), (hbt HB.out hw169_6), (hbt HB.out hw169_7)⟩ (fun hHeld => ?_)
        clear hK K
        refine norm_ (a' := ?_) ?_ ?_
        rotate_left
        ·show Act.put _ (some 34) _ = _
         simp only [Act.put, setIfInBounds_toArray, set_cons_zero, set_cons_succ, i64_w, i32_w]
         rfl
        refine pure_ (i := 25) (N := some 35) (v := ?_) (a' := ?_) bt3_26 rfl rfl (z8q HT_.out (by kernel_rfl)) (fun _ _ _ h => h) (Or.inl ⟨by rfl, ?_⟩) ?_ ?_
        rotate_left
        ·intro w'
         go_simp
         with_reducible rfl
        rotate_left
        ·simp only [Act.put, setIfInBounds_toArray, set_cons_zero, set_cons_succ, i64_w, i32_w]
         rfl
        refine done_ (done_of HT_.out (by kernel_rfl)) ?_
        try go_wp2
        go_roundg k1
        case measure => have := HK1.out; omega
        case rel => exact ⟨(wrap64 (x3_1 + 1)), (by first | rfl | (simp; done) | (simp [*]; done) | (simp; unfold wrap64; omega)), (by first | exact H' | exact ⟨by (try rw [hji3]); exact H'.out⟩), ⟨by have := HK1.out; omega⟩, ⟨by repeat (first | (with_reducible first | exact HB.out | apply z7q | apply z3q | apply z4q) | exact HB.out)⟩⟩
       ·replace c8 := Bool.eq_false_iff.mpr c8
        subst c8
        have H1 : (some false) = some r := by rw [if_neg (show ¬ (false = true) by decide)] at H; exact H
        clear H
        have H := H1
        clear H1
        obtain rfl := Option.some.inj H
        try go_wp2
        have n0_ := Aside0.mk (z4q HB.out)
        clear HB
        have HB := n0_
        clear n0_
        have p166 : 0 ≤ ((ji3) : Int) := of_decide_eq_true (by first | (with_reducible assumption) | assumption)
        have q166 : (ji3) < (l0.length : Int) := of_decide_eq_true (by first | (with_reducible assumption) | assumption)
        obtain ⟨ad166, e166, hx166_0, hx166_1, hx166_2, hx166_3, hx166_4, hx166_5, hx166_6, hx166_7⟩ := at_T107 HR0.out (ji3) p166 q166
        have hw166_7 := hx166_7
        have hw166_6 := hx166_6
        have hw166_5 := hx166_5
        have hw166_4 := hx166_4
        have hw166_3 := hx166_3
        have hw166_2 := hx166_2
        have hw166_1 := hx166_1
        have hw166_0 := hx166_0
        cases e166
        replace hx166_0 := (hbc HB.out hx166_0).trans hx166_0
        replace hx166_1 := (hbc HB.out hx166_1).trans hx166_1
        replace hx166_2 := (hbc HB.out hx166_2).trans hx166_2
        replace hx166_3 := (hbc HB.out hx166_3).trans hx166_3
        replace hx166_4 := (hbc HB.out hx166_4).trans hx166_4
        replace hx166_5 := (hbc HB.out hx166_5).trans hx166_5
        replace hx166_6 := (hbc HB.out hx166_6).trans hx166_6
        replace hx166_7 := (hbc HB.out hx166_7).trans hx166_7
        replace p166 := eq_true p166
        replace q166 := eq_true q166
        have p167 : 0 ≤ ((ji3) : Int) := of_decide_eq_true (by first | (with_reducible assumption) | assumption)
        have q167 : (ji3) < (l0.length : Int) := of_decide_eq_true (by first | (with_reducible assumption) | assumption)
        obtain ⟨ad167, e167, hx167_0, hx167_1, hx167_2, hx167_3, hx167_4, hx167_5, hx167_6, hx167_7⟩ := at_T107 HR0.out (ji3) p167 q167
        have hw167_7 := hx167_7
        have hw167_6 := hx167_6
        have hw167_5 := hx167_5
        have hw167_4 := hx167_4
        have hw167_3 := hx167_3
        have hw167_2 := hx167_2
        have hw167_1 := hx167_1
        have hw167_0 := hx167_0
        obtain rfl : ad166 = ad167 := (by injection e167)
        replace hx167_0 := (hbc HB.out hx167_0).trans hx167_0
        replace hx167_1 := (hbc HB.out hx167_1).trans hx167_1
        replace hx167_2 := (hbc HB.out hx167_2).trans hx167_2
        replace hx167_3 := (hbc HB.out hx167_3).trans hx167_3
        replace hx167_4 := (hbc HB.out hx167_4).trans hx167_4
        replace hx167_5 := (hbc HB.out hx167_5).trans hx167_5
        replace hx167_6 := (hbc HB.out hx167_6).trans hx167_6
        replace hx167_7 := (hbc HB.out hx167_7).trans hx167_7
        replace p167 := eq_true p167
        replace q167 := eq_true q167
        have p168 : 0 ≤ (x3_1 : Int) := of_decide_eq_true (by first | (with_reducible assumption) | assumption)
        have q168 : x3_1 < (l0.length : Int) := of_decide_eq_true (by first | (with_reducible assumption) | assumption)
        obtain ⟨ad168, e168, hx168_0, hx168_1, hx168_2, hx168_3, hx168_4, hx168_5, hx168_6, hx168_7⟩ := at_T107 HR0.out x3_1 p168 q168
        have hw168_7 := hx168_7
        have hw168_6 := hx168_6
        have hw168_5 := hx168_5
        have hw168_4 := hx168_4
        have hw168_3 := hx168_3
        have hw168_2 := hx168_2
        have hw168_1 := hx168_1
        have hw168_0 := hx168_0
        obtain rfl : ad166 = ad168 := (by injection e168)
        replace hx168_0 := (hbc HB.out hx168_0).trans hx168_0
        replace hx168_1 := (hbc HB.out hx168_1).trans hx168_1
        replace hx168_2 := (hbc HB.out hx168_2).trans hx168_2
        replace hx168_3 := (hbc HB.out hx168_3).trans hx168_3
        replace hx168_4 := (hbc HB.out hx168_4).trans hx168_4
        replace hx168_5 := (hbc HB.out hx168_5).trans hx168_5
        replace hx168_6 := (hbc HB.out hx168_6).trans hx168_6
        replace hx168_7 := (hbc HB.out hx168_7).trans hx168_7
        replace p168 := eq_true p168
        replace q168 := eq_true q168
        have p169 : 0 ≤ (x3_1 : Int) := of_decide_eq_true (by first | (with_reducible assumption) | assumption)
        have q169 : x3_1 < (l0.length : Int) := of_decide_eq_true (by first | (with_reducible assumption) | assumption)
        obtain ⟨ad169, e169, hx169_0, hx169_1, hx169_2, hx169_3, hx169_4, hx169_5, hx169_6, hx169_7⟩ := at_T107 HR0.out x3_1 p169 q169
        have hw169_7 := hx169_7
        have hw169_6 := hx169_6
        have hw169_5 := hx169_5
        have hw169_4 := hx169_4
        have hw169_3 := hx169_3
        have hw169_2 := hx169_2
        have hw169_1 := hx169_1
        have hw169_0 := hx169_0
        obtain rfl : ad166 = ad169 := (by injection e169)
        replace hx169_0 := (hbc HB.out hx169_0).trans hx169_0
        replace hx169_1 := (hbc HB.out hx169_1).trans hx169_1
        replace hx169_2 := (hbc HB.out hx169_2).trans hx169_2
        replace hx169_3 := (hbc HB.out hx169_3).trans hx169_3
        replace hx169_4 := (hbc HB.out hx169_4).trans hx169_4
        replace hx169_5 := (hbc HB.out hx169_5).trans hx169_5
        replace hx169_6 := (hbc HB.out hx169_6).trans hx169_6
        replace hx169_7 := (hbc HB.out hx169_7).trans hx169_7
        replace p169 := eq_true p169
        replace q169 := eq_true q169
        refine start_ (n := 26) (S := fun w' => w'.cell? (ad166.add (((ji3)).toNat * 8)) = some (.int .i64 ((rd_T107 l0 (ji3)).f0)) ∧ w'.cell? ⟨(ad166.add (((ji3)).toNat * 8)).block, (ad166.add (((ji3)).toNat * 8)).off + 1, none⟩ = some (.int .i64 ((rd_T107 l0 (ji3)).f1)) ∧ w'.cell? ⟨(ad166.add (((ji3)).toNat * 8)).block, (ad166.add (((ji3)).toNat * 8)).off + 2, none⟩ = some (.int .i64 ((rd_T107 l0 (ji3)).f2.f0)) ∧ w'.cell? ⟨(ad166.add (((ji3)).toNat * 8)).block, (ad166.add (((ji3)).toNat * 8)).off + 3, none⟩ = some (.bool ((rd_T107 l0 (ji3)).f2.f1.f0)) ∧ w'.cell? ⟨(ad166.add (((ji3)).toNat * 8)).block, (ad166.add (((ji3)).toNat * 8)).off + 4, none⟩ = some (.int .i64 ((rd_T107 l0 (ji3)).f2.f1.f1)) ∧ w'.cell? ⟨(ad166.add (((ji3)).toNat * 8)).block, (ad166.add (((ji3)).toNat * 8)).off + 5, none⟩ = some (.int .i64 ((rd_T107 l0 (ji3)).f2.f1.f2)) ∧ w'.cell? ⟨(ad166.add (((ji3)).toNat * 8)).block, (ad166.add (((ji3)).toNat * 8)).off + 6, none⟩ = some (.string ((rd_T107 l0 (ji3)).f2.f2)) ∧ w'.cell? ⟨(ad166.add (((ji3)).toNat * 8)).block, (ad166.add (((ji3)).toNat * 8)).off + 7, none⟩ = some (.bool ((rd_T107 l0 (ji3)).f3)) ∧ w'.cell? (ad166.add (((ji3)).toNat * 8)) = some (.int .i64 ((rd_T107 l0 (ji3)).f0)) ∧ w'.cell? ⟨(ad166.add (((ji3)).toNat * 8)).block, (ad166.add (((ji3)).toNat * 8)).off + 1, none⟩ = some (.int .i64 ((rd_T107 l0 (ji3)).f1)) ∧ w'.cell? ⟨(ad166.add (((ji3)).toNat * 8)).block, (ad166.add (((ji3)).toNat * 8)).off + 2, none⟩ = some (.int .i64 ((rd_T107 l0 (ji3)).f2.f0)) ∧ w'.cell? ⟨(ad166.add (((ji3)).toNat * 8)).block, (ad166.add (((ji3)).toNat * 8)).off + 3, none⟩ = some (.bool ((rd_T107 l0 (ji3)).f2.f1.f0)) ∧ w'.cell? ⟨(ad166.add (((ji3)).toNat * 8)).block, (ad166.add (((ji3)).toNat * 8)).off + 4, none⟩ = some (.int .i64 ((rd_T107 l0 (ji3)).f2.f1.f1)) ∧ w'.cell? ⟨(ad166.add (((ji3)).toNat * 8)).block, (ad166.add (((ji3)).toNat * 8)).off + 5, none⟩ = some (.int .i64 ((rd_T107 l0 (ji3)).f2.f1.f2)) ∧ w'.cell? ⟨(ad166.add (((ji3)).toNat * 8)).block, (ad166.add (((ji3)).toNat * 8)).off + 6, none⟩ = some (.string ((rd_T107 l0 (ji3)).f2.f2)) ∧ w'.cell? ⟨(ad166.add (((ji3)).toNat * 8)).block, (ad166.add (((ji3)).toNat * 8)).off + 7, none⟩ = some (.bool ((rd_T107 l0 (ji3)).f3)) ∧ w'.cell? (ad166.add ((x3_1).toNat * 8)) = some (.int .i64 ((rd_T107 l0 x3_1).f0)) ∧ w'.cell? ⟨(ad166.add ((x3_1).toNat * 8)).block, (ad166.add ((x3_1).toNat * 8)).off + 1, none⟩ = some (.int .i64 ((rd_T107 l0 x3_1).f1)) ∧ w'.cell? ⟨(ad166.add ((x3_1).toNat * 8)).block, (ad166.add ((x3_1).toNat * 8)).off + 2, none⟩ = some (.int .i64 ((rd_T107 l0 x3_1).f2.f0)) ∧ w'.cell? ⟨(ad166.add ((x3_1).toNat * 8)).block, (ad166.add ((x3_1).toNat * 8)).off + 3, none⟩ = some (.bool ((rd_T107 l0 x3_1).f2.f1.f0)) ∧ w'.cell? ⟨(ad166.add ((x3_1).toNat * 8)).block, (ad166.add ((x3_1).toNat * 8)).off + 4, none⟩ = some (.int .i64 ((rd_T107 l0 x3_1).f2.f1.f1)) ∧ w'.cell? ⟨(ad166.add ((x3_1).toNat * 8)).block, (ad166.add ((x3_1).toNat * 8)).off + 5, none⟩ = some (.int .i64 ((rd_T107 l0 x3_1).f2.f1.f2)) ∧ w'.cell? ⟨(ad166.add ((x3_1).toNat * 8)).block, (ad166.add ((x3_1).toNat * 8)).off + 6, none⟩ = some (.string ((rd_T107 l0 x3_1).f2.f2)) ∧ w'.cell? ⟨(ad166.add ((x3_1).toNat * 8)).block, (ad166.add ((x3_1).toNat * 8)).off + 7, none⟩ = some (.bool ((rd_T107 l0 x3_1).f3)) ∧ w'.cell? (ad166.add ((x3_1).toNat * 8)) = some (.int .i64 ((rd_T107 l0 x3_1).f0)) ∧ w'.cell? ⟨(ad166.add ((x3_1).toNat * 8)).block, (ad166.add ((x3_1).toNat * 8)).off + 1, none⟩ = some (.int .i64 ((rd_T107 l0 x3_1).f1)) ∧ w'.cell? ⟨(ad166.add ((x3_1).toNat * 8)).block, (ad166.add ((x3_1).toNat * 8)).off + 2, none⟩ = some (.int .i64 ((rd_T107 l0 x3_1).f2.f0)) ∧ w'.cell? ⟨(ad166.add ((x3_1).toNat * 8)).block, (ad166.add ((x3_1).toNat * 8)).off + 3, none⟩ = some (.bool ((rd_T107 l0 x3_1).f2.f1.f0)) ∧ w'.cell? ⟨(ad166.add ((x3_1).toNat * 8)).block, (ad166.add ((x3_1).toNat * 8)).off + 4, none⟩ = some (.int .i64 ((rd_T107 l0 x3_1).f2.f1.f1)) ∧ w'.cell? ⟨(ad166.add ((x3_1).toNat * 8)).block, (ad166.add ((x3_1).toNat * 8)).off + 5, none⟩ = some (.int .i64 ((rd_T107 l0 x3_1).f2.f1.f2)) ∧ w'.cell? ⟨(ad166.add ((x3_1).toNat * 8)).block, (ad166.add ((x3_1).toNat * 8)).off + 6, none⟩ = some (.string ((rd_T107 l0 x3_1).f2.f2)) ∧ w'.cell? ⟨(ad166.add ((x3_1).toNat * 8)).block, (ad166.add ((x3_1).toNat * 8)).off + 7, none⟩ = some (.bool ((rd_T107 l0 x3_1).f3))) (ds := []) bt3_0 (by kernel_rfl) rfl rfl ⟨(hbt HB.out hw166_0), (hbt HB.out hw166_1), (hbt HB.out hw166_2), (hbt HB.out hw166_3), (hbt HB.out hw166_4), (hbt HB.out hw166_5), (hbt HB.out hw166_6), (hbt HB.out hw166_7), (hbt HB.out hw167_0), (hbt HB.out hw167_1), (hbt HB.out hw167_2), (hbt HB.out hw167_3), (hbt HB.out hw167_4), (hbt HB.out hw167_5), (hbt HB.out hw167_6), (hbt HB.out hw167_7), (hbt HB.out hw168_0), (hbt HB.out hw168_1), (hbt HB.out hw168_2), (hbt HB.out hw168_3), (hbt HB.out hw168_4), (hbt HB.out hw168_5), (hbt HB.out hw168_6), (hbt HB.out hw168_7), (hbt HB.out hw169_0), (hbt HB.out hw169_1), (hbt HB.out hw169_2), (hbt HB.out hw169_3), (hbt HB.out hw169_4), (hbt HB.out hw169_5), (hbt HB.out hw169_6), (hbt HB.out hw169_7)⟩ (fun hHeld => ?_); refine with_tabW impl_rising.tab4 impl_rising.bits4 (fun HT_ HW_ => ?_)
        generalize wr.drew = w11 at HB hx166_0 hx166_1 hx166_2 hx166_3 hx166_4 hx166_5 hx166_6 hx166_7 hx167_0 hx167_1 hx167_2 hx167_3 hx167_4 hx167_5 hx167_6 hx167_7 hx168_0 hx168_1 hx168_2 hx168_3 hx168_4 hx168_5 hx168_6 hx168_7 hx169_0 hx169_1 hx169_2 hx169_3 hx169_4 hx169_5 hx169_6 hx169_7 hHeld ⊢
        refine pure_ (i := 0) (N := some 10) (v := ?_) (a' := ?_) bt3_1 rfl rfl (z8q HT_.out (by kernel_rfl)) (fun _ _ _ h => h) (Or.inl ⟨by rfl, ?_⟩) ?_ ?_
        rotate_left
        ·intro w'
         go_simp
         with_reducible rfl
        rotate_left
        ·simp only [Act.put, setIfInBounds_toArray, set_cons_zero, set_cons_succ, i64_w, i32_w]
         rfl
        refine pure_ (i := 1) (N := some 11) (v := ?_) (a' := ?_) bt3_2 rfl rfl (z8q HT_.out (by kernel_rfl)) (fun _ _ _ h => h) (Or.inl ⟨by rfl, ?_⟩) ?_ ?_
        rotate_left
        ·intro w'
         go_simp
         with_reducible rfl
        rotate_left
        ·simp only [Act.put, setIfInBounds_toArray, set_cons_zero, set_cons_succ, i64_w, i32_w]
         rfl
        refine pure_ (i := 2) (N := some 12) (v := ?_) (a' := ?_) bt3_3 rfl rfl (z8q HT_.out (by kernel_rfl)) (fun _ _ _ h => h) (Or.inl ⟨by rfl, ?_⟩) ?_ ?_
        rotate_left
        ·intro w'
         go_simp
         with_reducible rfl
        rotate_left
        ·simp only [Act.put, setIfInBounds_toArray, set_cons_zero, set_cons_succ, i64_w, i32_w]
         rfl
        refine pure_ (i := 3) (N := some 13) (v := ?_) (a' := ?_) bt3_4 rfl rfl (z8q HT_.out (by kernel_rfl)) (fun _ _ _ h => h) (Or.inl ⟨by rfl, ?_⟩) ?_ ?_
        rotate_left
        ·intro w'
         go_simp
         with_reducible rfl
        rotate_left
        ·simp only [Act.put, setIfInBounds_toArray, set_cons_zero, set_cons_succ, i64_w, i32_w]
         rfl
        refine pure_ (i := 4) (N := some 14) (v := ?_) (a' := ?_) bt3_5 rfl rfl (z8q HT_.out (by kernel_rfl)) (fun _ _ _ h => h) (Or.inl ⟨by rfl, ?_⟩) ?_ ?_
        rotate_left
        ·intro w'
         go_simp
         with_reducible rfl
        rotate_left
        ·simp only [Act.put, setIfInBounds_toArray, set_cons_zero, set_cons_succ, i64_w, i32_w]
         rfl
        refine pure_ (i := 6) (N := some 16) (v := ?_) (a' := ?_) bt3_6 rfl rfl (z8q HT_.out (by kernel_rfl)) (fun _ _ _ h => h) (Or.inl ⟨by rfl, ?_⟩) ?_ ?_
        rotate_left
        ·intro w'
         go_simp
         with_reducible rfl
        rotate_left
        ·simp only [Act.put, setIfInBounds_toArray, set_cons_zero, set_cons_succ, i64_w, i32_w]
         rfl
        refine pure_ (i := 7) (N := some 17) (v := ?_) (a' := ?_) bt3_7 rfl rfl (z8q HT_.out (by kernel_rfl)) (fun _ _ _ h => h) (Or.inl ⟨by rfl, ?_⟩) ?_ ?_
        rotate_left
        ·intro w'
         go_simp
         with_reducible rfl
        rotate_left
        ·simp only [Act.put, setIfInBounds_toArray, set_cons_zero, set_cons_succ, i64_w, i32_w]
         rfl
        refine pure_ (i := 8) (N := some 18) (v := ?_) (a' := ?_) bt3_8 rfl rfl (z8q HT_.out (by kernel_rfl)) (fun _ _ _ h => h) (Or.inl ⟨by rfl, ?_⟩) ?_ ?_
        rotate_left
        ·intro w'
         go_simp
         with_reducible rfl
        rotate_left
        ·simp only [Act.put, setIfInBounds_toArray, set_cons_zero, set_cons_succ, i64_w, i32_w]
         rfl
        refine pure_ (i := 9) (N := some 19) (v := ?_) (a' := ?_) bt3_9 rfl rfl (z8q HT_.out (by kernel_rfl)) (fun _ _ _ h => h) (Or.inl ⟨by rfl, ?_⟩) ?_ ?_
        rotate_left
        ·intro w'
         go_simp
         with_reducible rfl
        rotate_left
        ·simp only [Act.put, setIfInBounds_toArray, set_cons_zero, set_cons_succ, i64_w, i32_w]
         rfl
        refine pure_ (i := 10) (N := some 20) (v := ?_) (a' := ?_) bt3_10 rfl rfl (z8q HT_.out (by kernel_rfl)) (fun _ _ _ h => h) (Or.inl ⟨by rfl, ?_⟩) ?_ ?_
        rotate_left
        ·intro w'
         go_simp
         with_reducible rfl
        rotate_left
        ·simp only [Act.put, setIfInBounds_toArray, set_cons_zero, set_cons_succ, i64_w, i32_w]
         rfl
        refine pure_ (i := 13) (N := some 23) (v := ?_) (a' := ?_) bt3_11 rfl rfl (z8q HT_.out (by kernel_rfl)) (fun _ _ _ h => h) (Or.inl ⟨by rfl, ?_⟩) ?_ ?_
        rotate_left
        ·intro w'
         go_simp
         with_reducible rfl
        rotate_left
        ·simp only [Act.put, setIfInBounds_toArray, set_cons_zero, set_cons_succ, i64_w, i32_w]
         rfl
        refine pure_ (i := 14) (N := some 24) (v := ?_) (a' := ?_) bt3_12 rfl rfl (z8q HT_.out (by kernel_rfl)) (fun _ _ _ h => h) (Or.inl ⟨by rfl, ?_⟩) ?_ ?_
        rotate_left
        ·intro w'
         go_simp
         with_reducible rfl
        rotate_left
        ·simp only [Act.put, setIfInBounds_toArray, set_cons_zero, set_cons_succ, i64_w, i32_w]
         rfl
        refine pure_ (i := 15) (N := some 25) (v := ?_) (a' := ?_) bt3_13 rfl rfl (z8q HT_.out (by kernel_rfl)) (fun _ _ _ h => h) (Or.inl ⟨by rfl, ?_⟩) ?_ ?_
        rotate_left
        ·intro w'
         go_simp
         with_reducible rfl
        rotate_left
        ·simp only [Act.put, setIfInBounds_toArray, set_cons_zero, set_cons_succ, i64_w, i32_w]
         rfl
        refine pure_ (i := 16) (N := some 26) (v := ?_) (a' := ?_) bt3_14 rfl rfl (z8q HT_.out (by kernel_rfl)) (fun _ _ _ h => h) (Or.inl ⟨by rfl, ?_⟩) ?_ ?_
        rotate_left
        ·intro w'
         go_simp
         with_reducible rfl
        rotate_left
        ·simp only [Act.put, setIfInBounds_toArray, set_cons_zero, set_cons_succ, i64_w, i32_w]
         rfl
        refine pure_ (i := 18) (N := some 28) (v := ?_) (a' := ?_) bt3_15 rfl rfl (z8q HT_.out (by kernel_rfl)) (fun _ _ _ h => h) (Or.inl ⟨by rfl, ?_⟩) ?_ ?_
        rotate_left
        ·intro w'
         go_simp
         with_reducible rfl
        rotate_left
        ·simp only [Act.put, setIfInBounds_toArray, set_cons_zero, set_cons_succ, i64_w, i32_w]
         rfl
        refine pure_ (i := 19) (N := some 29) (v := ?_) (a' := ?_) bt3_16 rfl rfl (z8q HT_.out (by kernel_rfl)) (fun _ _ _ h => h) (Or.inl ⟨by rfl, ?_⟩) ?_ ?_
        rotate_left
        ·intro w'
         go_simp
         with_reducible rfl
        rotate_left
        ·simp only [Act.put, setIfInBounds_toArray, set_cons_zero, set_cons_succ, i64_w, i32_w]
         rfl
        refine pure_ (i := 20) (N := some 30) (v := ?_) (a' := ?_) bt3_17 rfl rfl (z8q HT_.out (by kernel_rfl)) (fun _ _ _ h => h) (Or.inl ⟨by rfl, ?_⟩) ?_ ?_
        rotate_left
        ·intro w'
         go_simp
         with_reducible rfl
        rotate_left
        ·simp only [Act.put, setIfInBounds_toArray, set_cons_zero, set_cons_succ, i64_w, i32_w]
         rfl
        refine pure_ (i := 21) (N := some 31) (v := ?_) (a' := ?_) bt3_18 rfl rfl (z8q HT_.out (by kernel_rfl)) (fun _ _ _ h => h) (Or.inl ⟨by rfl, ?_⟩) ?_ ?_
        rotate_left
        ·intro w'
         go_simp
         with_reducible rfl
        rotate_left
        ·simp only [Act.put, setIfInBounds_toArray, set_cons_zero, set_cons_succ, i64_w, i32_w]
         rfl
        refine take_ (i := 5) (N := some 15) (v := ?_) (a' := ?_) bt3_19 rfl rfl (z19q HT_.out HW_.out (by kernel_rfl)) (fun _ _ _ h => h) (Or.inl ⟨by rfl, ?_⟩) hHeld ?_ ?_
        rotate_left
        ·rintro w' ⟨s0, s1, s2, s3, s4, s5, s6, s7, s8, s9, s10, s11, s12, s13, s14, s15, s16, s17, s18, s19, s20, s21, s22, s23, s24, s25, s26, s27, s28, s29, s30, s31⟩
         go_simp
         with_reducible rfl
        rotate_left
        ·simp only [Act.put, setIfInBounds_toArray, set_cons_zero, set_cons_succ, i64_w, i32_w]
         rfl
        refine take_ (i := 11) (N := some 21) (v := ?_) (a' := ?_) bt3_20 rfl rfl (z19q HT_.out HW_.out (by kernel_rfl)) (fun _ _ _ h => h) (Or.inl ⟨by rfl, ?_⟩) hHeld ?_ ?_
        rotate_left
        ·rintro w' ⟨s0, s1, s2, s3, s4, s5, s6, s7, s8, s9, s10, s11, s12, s13, s14, s15, s16, s17, s18, s19, s20, s21, s22, s23, s24, s25, s26, s27, s28, s29, s30, s31⟩
         go_simp
         with_reducible rfl
        rotate_left
        ·simp only [Act.put, setIfInBounds_toArray, set_cons_zero, set_cons_succ, i64_w, i32_w]
         rfl
        refine pure_ (i := 12) (N := some 22) (v := ?_) (a' := ?_) bt3_21 rfl rfl (z8q HT_.out (by kernel_rfl)) (fun _ _ _ h => h) (Or.inl ⟨by rfl, ?_⟩) ?_ ?_
        rotate_left
        ·intro w'
         go_simp
         with_reducible rfl
        rotate_left
        ·simp only [Act.put, setIfInBounds_toArray, set_cons_zero, set_cons_succ, i64_w, i32_w]
         rfl
        refine take_ (i := 17) (N := some 27) (v := ?_) (a' := ?_) bt3_22 rfl rfl (z19q HT_.out HW_.out (by kernel_rfl)) (fun _ _ _ h => h) (Or.inl ⟨by rfl, ?_⟩) hHeld ?_ ?_
        rotate_left
        ·rintro w' ⟨s0, s1, s2, s3, s4, s5, s6, s7, s8, s9, s10, s11, s12, s13, s14, s15, s16, s17, s18, s19, s20, s21, s22, s23, s24, s25, s26, s27, s28, s29, s30, s31⟩
         go_simp
         with_reducible rfl
        rotate_left
        ·simp only [Act.put, setIfInBounds_toArray, set_cons_zero, set_cons_succ, i64_w, i32_w]
         rfl
        refine take_ (i := 22) (N := some 32) (v := ?_) (a' := ?_) bt3_23 rfl rfl (z19q HT_.out HW_.out (by kernel_rfl)) (fun _ _ _ h => h) (Or.inl ⟨by rfl, ?_⟩) hHeld ?_ ?_
        rotate_left
        ·rintro w' ⟨s0, s1, s2, s3, s4, s5, s6, s7, s8, s9, s10, s11, s12, s13, s14, s15, s16, s17, s18, s19, s20, s21, s22, s23, s24, s25, s26, s27, s28, s29, s30, s31⟩
         go_simp
         with_reducible rfl
        rotate_left
        ·simp only [Act.put, setIfInBounds_toArray, set_cons_zero, set_cons_succ, i64_w, i32_w]
         rfl
        refine pure_ (i := 23) (N := some 33) (v := ?_) (a' := ?_) bt3_24 rfl rfl (z8q HT_.out (by kernel_rfl)) (fun _ _ _ h => h) (Or.inl ⟨by rfl, ?_⟩) ?_ ?_
        rotate_left
        ·intro w'
         go_simp
         with_reducible rfl
        rotate_left
        ·simp only [Act.put, setIfInBounds_toArray, set_cons_zero, set_cons_succ, i64_w, i32_w]
         rfl
        refine one_ (i := 24) (N := some 34) bt3_25 rfl rfl (one_of HT_.out (by kernel_rfl)) (by decide) (fun K hK => ?_)
        refine goes_ Try.func72 (by kernel_rfl) rfl #[.agg #[.int .i64 ((rd_T107 l0 (ji3)).f0), .int .i64 ((rd_T107 l0 (ji3)).f1)], .agg #[.int .i64 ((rd_T107 l0 x3_1).f0), .int .i64 ((rd_T107 l0 x3_1).f1)]] (by rfl) rfl rfl (by (try simp only [map_toArray, map_cons, map_nil]); first | done | (simp only [hji3]; rfl) | rfl | (simp only [length_drop, length_take]; rfl)) ?_
        with_reducible refine (impl_place_before.calls ((rd_T107 l0 (ji3)).f0) ((rd_T107 l0 (ji3)).f1) ((rd_T107 l0 x3_1).f0) ((rd_T107 l0 x3_1).f1) false _ A7.out).mono ?_
        rintro e w12 ⟨rfl, hb⟩
        refine ⟨_, rfl, ?_⟩
        have n0_ := Aside0.mk (z6q (ibh HB.out) hb)
        clear HB
        have HB := n0_
        clear n0_
        (try clear hb)
        (try clear hb2)
        (try clear hk)
        (try clear hi)
        refine hK.out _ _ ⟨(hbt HB.out hw166_0), (hbt HB.out hw166_1), (hbt HB.out hw166_2), (hbt HB.out hw166_3), (hbt HB.out hw166_4), (hbt HB.out hw166_5), (hbt HB.out hw166_6), (hbt HB.out hw166_7), (hbt HB.out hw167_0), (hbt HB.out hw167_1), (hbt HB.out hw167_2), (hbt HB.out hw167_3), (hbt HB.out hw167_4), (hbt HB.out hw167_5), (hbt HB.out hw167_6), (hbt HB.out hw167_7), (hbt HB.out hw168_0), (hbt HB.out hw168_1), (hbt HB.out hw168_2), (hbt HB.out hw168_3), (hbt HB.out hw168_4), (hbt HB.out hw168_5), (hbt HB.out hw168_6), (hbt HB.out hw168_7), (hbt HB.out hw169_0), (hbt HB.out hw169_1), (hbt HB.out hw169_2), (hbt HB.out hw169_3), (hbt HB.out hw169_4), (hbt HB.out hw169_5), (hbt HB.out hw169_6), (hbt HB.out hw169_7)⟩ (fun hHeld => ?_)
        clear hK K
        refine norm_ (a' := ?_) ?_ ?_
        rotate_left
        ·show Act.put _ (some 34) _ = _
         simp only [Act.put, setIfInBounds_toArray, set_cons_zero, set_cons_succ, i64_w, i32_w]
         rfl
        refine pure_ (i := 25) (N := some 35) (v := ?_) (a' := ?_) bt3_26 rfl rfl (z8q HT_.out (by kernel_rfl)) (fun _ _ _ h => h) (Or.inl ⟨by rfl, ?_⟩) ?_ ?_
        rotate_left
        ·intro w'
         go_simp
         with_reducible rfl
        rotate_left
        ·simp only [Act.put, setIfInBounds_toArray, set_cons_zero, set_cons_succ, i64_w, i32_w]
         rfl
        refine done_ (done_of HT_.out (by kernel_rfl)) ?_
        try go_wp2
        go_ret
        exact ⟨by first | rfl | (simp [errW_none, errW_some] <;> rfl) | (simp only [← hji3]; first | rfl | (simp [errW_none, errW_some] <;> rfl)) | (simp [*, errW_none, errW_some] <;> rfl), by repeat (first | (with_reducible first | exact HB.out | apply z7q | apply z3q | apply z4q) | exact HB.out)⟩
      ·rw [if_neg c6] at H
       exact absurd H (by simp)
     ·rw [if_neg c5] at H
      exact absurd H (by simp)
    ·rw [if_neg c4] at H
     exact absurd H (by simp)
   ·rw [if_neg c2] at H
    have c2b0 : decide (x3_1 < (l0.length : Int)) = false := decide_eq_false c2
    clear c2
    obtain rfl := Option.some.inj H
    go_wp2
    go_ret
    exact ⟨by first | rfl | (simp [errW_none, errW_some] <;> rfl) | (simp [*, errW_none, errW_some] <;> rfl), by repeat (first | (with_reducible first | exact HB.out | apply z7q | apply z3q | apply z4q) | exact HB.out)⟩

set_option maxHeartbeats 100000000 in
set_option maxRecDepth 100000 in
theorem impl_rising.calls (k : Nat) (A0 : Option Addr) (c0 : Nat) (l0 : List (S107)) (r : Bool) (w : World) (hr0 : Kd.C k107 w A0 l0.length l0) (hc0 : l0.length ≤ c0) (h : impl_rising.f k l0 = some r) :
  Calls Try.prog 71 #[.slice A0 l0.length c0] w fun e w' => e = .returned (.bool r) ∧ Below w.heap.size w w' := by
 have H : (impl_rising.l0 k l0 1) = some r := h
 exact impl_rising.calls_p1 k A0 c0 l0 r w hr0 hc0 H

/-! ### impl_Differ: function 34 -/

mutual
def impl_Differ.j0 : Nat → List (S107) → List (S107) → Bool → Option ((List (S107)))
 | 0, _, _, _ => none
 | k + 1, x0, x1, x16 => if x16 = true then (some ([] : List (S107))) else (impl_Differ.l0 k x0 x1 (([] : List (S107))) 0 0)
def impl_Differ.l0 : Nat → List (S107) → List (S107) → List (S107) → Int → Int → Option ((List (S107)))
 | 0, _, _, _, _, _ => none
 | k + 1, x0, x1, x5, x6, x7 => if x6 < (x0.length : Int) then (impl_Differ.j2 k x0 x1 x5 x6 x7 true) else (impl_Differ.j2 k x0 x1 x5 x6 x7 (decide (x7 < (x1.length : Int))))
def impl_Differ.j2 : Nat → List (S107) → List (S107) → List (S107) → Int → Int → Bool → Option ((List (S107)))
 | 0, _, _, _, _, _, _ => none
 | k + 1, x0, x1, x5, x6, x7, x27 => if x27 = true then (if x7 = (x1.length : Int) then (impl_Differ.j3 k x0 x1 x5 x6 x7 true) else (if x6 < (x0.length : Int) then (if 0 ≤ x6 then (if 0 ≤ x7 then (if x7 < (x1.length : Int) then ((impl_place_before.f ((rd_T107 x0 x6).f0) ((rd_T107 x0 x6).f1) ((rd_T107 x1 x7).f0) ((rd_T107 x1 x7).f1)).bind fun t180 => (impl_Differ.j3 k x0 x1 x5 x6 x7 t180)) else (none)) else (none)) else (none)) else (impl_Differ.j3 k x0 x1 x5 x6 x7 false))) else (some x5)
def impl_Differ.j3 : Nat → List (S107) → List (S107) → List (S107) → Int → Int → Bool → Option ((List (S107)))
 | 0, _, _, _, _, _, _ => none
 | k + 1, x0, x1, x5, x6, x7, x48 => if x48 = true then (if 0 ≤ x6 then (if x6 < (x0.length : Int) then (if ((!(((rd_T107 x0 x6).f2.f0) == 0) || ((((rd_T107 x0 x6).f2.f1.f0) || (!(((rd_T107 x0 x6).f2.f1.f1) == 0) || (!(((rd_T107 x0 x6).f2.f1.f2) == 0)))) || (!((((rd_T107 x0 x6).f2.f2).toList) == ([] : List UInt8))))) || (((rd_T107 x0 x6).f3))) = true then (if x5.length < 1954687338268 then (impl_Differ.l0 k x0 x1 (x5 ++ [(⟨(rd_T107 x0 x6).f0, (rd_T107 x0 x6).f1, (⟨0, (⟨false, 0, 0⟩ : S103), (⟨#[]⟩ : ByteArray)⟩ : S105), false⟩ : S107)]) (wrap64 (x6 + 1)) x7) else (none)) else (impl_Differ.l0 k x0 x1 x5 (wrap64 (x6 + 1)) x7)) else (none)) else (none)) else (if x6 = (x0.length : Int) then (impl_Differ.j4 k x0 x1 x5 x6 x7 true) else (if 0 ≤ x7 then (if x7 < (x1.length : Int) then (if 0 ≤ x6 then (if x6 < (x0.length : Int) then ((impl_place_before.f ((rd_T107 x1 x7).f0) ((rd_T107 x1 x7).f1) ((rd_T107 x0 x6).f0) ((rd_T107 x0 x6).f1)).bind fun t192 => (impl_Differ.j4 k x0 x1 x5 x6 x7 t192)) else (none)) else (none)) else (none)) else (none)))
def impl_Differ.j4 : Nat → List (S107) → List (S107) → List (S107) → Int → Int → Bool → Option ((List (S107)))
 | 0, _, _, _, _, _, _ => none
 | k + 1, x0, x1, x5, x6, x7, x107 => if x107 = true then (if 0 ≤ x7 then (if x7 < (x1.length : Int) then (if ((!(((rd_T107 x1 x7).f2.f0) == 0) || ((((rd_T107 x1 x7).f2.f1.f0) || (!(((rd_T107 x1 x7).f2.f1.f1) == 0) || (!(((rd_T107 x1 x7).f2.f1.f2) == 0)))) || (!((((rd_T107 x1 x7).f2.f2).toList) == ([] : List UInt8))))) || (((rd_T107 x1 x7).f3))) = true then (if x5.length < 1954687338268 then (impl_Differ.l0 k x0 x1 (x5 ++ [(⟨(rd_T107 x1 x7).f0, (rd_T107 x1 x7).f1, (⟨(rd_T107 x1 x7).f2.f0, (⟨(rd_T107 x1 x7).f2.f1.f0, (rd_T107 x1 x7).f2.f1.f1, (rd_T107 x1 x7).f2.f1.f2⟩ : S103), (rd_T107 x1 x7).f2.f2⟩ : S105), (rd_T107 x1 x7).f3⟩ : S107)]) x6 (wrap64 (x7 + 1))) else (none)) else (impl_Differ.l0 k x0 x1 x5 x6 (wrap64 (x7 + 1)))) else (none)) else (none)) else (if 0 ≤ x6 then (if x6 < (x0.length : Int) then (if 0 ≤ x7 then (if x7 < (x1.length : Int) then (if (!(((rd_T107 x0 x6).f0) == ((rd_T107 x1 x7).f0)) || (!(((rd_T107 x0 x6).f1) == ((rd_T107 x1 x7).f1)) || ((!(((rd_T107 x0 x6).f2.f0) == ((rd_T107 x1 x7).f2.f0)) || ((!(((rd_T107 x0 x6).f2.f1.f0) == ((rd_T107 x1 x7).f2.f1.f0)) || (!(((rd_T107 x0 x6).f2.f1.f1) == ((rd_T107 x1 x7).f2.f1.f1)) || (!(((rd_T107 x0 x6).f2.f1.f2) == ((rd_T107 x1 x7).f2.f1.f2))))) || (!((((rd_T107 x0 x6).f2.f2).toList) == (((rd_T107 x1 x7).f2.f2).toList))))) || (!(((rd_T107 x0 x6).f3) == ((rd_T107 x1 x7).f3)))))) = true then (if x5.length < 1954687338268 then (impl_Differ.l0 k x0 x1 (x5 ++ [(⟨(rd_T107 x1 x7).f0, (rd_T107 x1 x7).f1, (⟨(rd_T107 x1 x7).f2.f0, (⟨(rd_T107 x1 x7).f2.f1.f0, (rd_T107 x1 x7).f2.f1.f1, (rd_T107 x1 x7).f2.f1.f2⟩ : S103), (rd_T107 x1 x7).f2.f2⟩ : S105), (rd_T107 x1 x7).f3⟩ : S107)]) (wrap64 (x6 + 1)) (wrap64 (x7 + 1))) else (none)) else (impl_Differ.l0 k x0 x1 x5 (wrap64 (x6 + 1)) (wrap64 (x7 + 1)))) else (none)) else (none)) else (none)) else (none))
end

def impl_Differ.f (k : Nat) (l0 : List (S107)) (l1 : List (S107)) : Option ((List (S107))) := (impl_rising.f k l0).bind fun t171 => (if t171 = true then ((impl_rising.f k l1).bind fun t172 => (impl_Differ.j0 k l0 l1 (!t172))) else (impl_Differ.j0 k l0 l1 true))

theorem impl_Differ.mono_l : ∀ k, (∀ y0 y1 y2, LeO (impl_Differ.j0 k y0 y1 y2) (impl_Differ.j0 (k + 1) y0 y1 y2)) ∧ (∀ y0 y1 y2 y3 y4, LeO (impl_Differ.l0 k y0 y1 y2 y3 y4) (impl_Differ.l0 (k + 1) y0 y1 y2 y3 y4)) ∧ (∀ y0 y1 y2 y3 y4 y5, LeO (impl_Differ.j2 k y0 y1 y2 y3 y4 y5) (impl_Differ.j2 (k + 1) y0 y1 y2 y3 y4 y5)) ∧ (∀ y0 y1 y2 y3 y4 y5, LeO (impl_Differ.j3 k y0 y1 y2 y3 y4 y5) (impl_Differ.j3 (k + 1) y0 y1 y2 y3 y4 y5)) ∧ (∀ y0 y1 y2 y3 y4 y5, LeO (impl_Differ.j4 k y0 y1 y2 y3 y4 y5) (impl_Differ.j4 (k + 1) y0 y1 y2 y3 y4 y5))
 | 0 => ⟨fun _ _ _ r h => by simp [impl_Differ.j0] at h, fun _ _ _ _ _ r h => by simp [impl_Differ.l0] at h, fun _ _ _ _ _ _ r h => by simp [impl_Differ.j2] at h, fun _ _ _ _ _ _ r h => by simp [impl_Differ.j3] at h, fun _ _ _ _ _ _ r h => by simp [impl_Differ.j4] at h⟩
 | k + 1 => by
  obtain ⟨ih0, ih1, ih2, ih3, ih4⟩ := impl_Differ.mono_l k
  refine ⟨?_, ?_, ?_, ?_, ?_⟩
  ·intro y0 y1 y2
   unfold impl_Differ.j0
   repeat' first
   | (with_reducible exact ih0 _ _ _)
   | (with_reducible exact ih1 _ _ _ _ _)
   | (with_reducible exact ih2 _ _ _ _ _ _)
   | (with_reducible exact ih3 _ _ _ _ _ _)
   | (with_reducible exact ih4 _ _ _ _ _ _)
   | (with_reducible exact impl_rising.mono _ _)
   | (with_reducible exact LeO.refl _)
   | (with_reducible exact LeO.none _)
   | (with_reducible refine LeO.ite ?_ ?_)
   | (with_reducible refine LeO.bind ?_ (fun _ => ?_))
   | exact ih0 _ _ _
   | exact ih1 _ _ _ _ _
   | exact ih2 _ _ _ _ _ _
   | exact ih3 _ _ _ _ _ _
   | exact ih4 _ _ _ _ _ _
   | exact impl_rising.mono _ _
   | exact LeO.none _
   | refine LeO.ite ?_ ?_
   | refine LeO.bind ?_ (fun _ => ?_)
  ·intro y0 y1 y2 y3 y4
   unfold impl_Differ.l0
   repeat' first
   | (with_reducible exact ih0 _ _ _)
   | (with_reducible exact ih1 _ _ _ _ _)
   | (with_reducible exact ih2 _ _ _ _ _ _)
   | (with_reducible exact ih3 _ _ _ _ _ _)
   | (with_reducible exact ih4 _ _ _ _ _ _)
   | (with_reducible exact impl_rising.mono _ _)
   | (with_reducible exact LeO.refl _)
   | (with_reducible exact LeO.none _)
   | (with_reducible refine LeO.ite ?_ ?_)
   | (with_reducible refine LeO.bind ?_ (fun _ => ?_))
   | exact ih0 _ _ _
   | exact ih1 _ _ _ _ _
   | exact ih2 _ _ _ _ _ _
   | exact ih3 _ _ _ _ _ _
   | exact ih4 _ _ _ _ _ _
   | exact impl_rising.mono _ _
   | exact LeO.none _
   | refine LeO.ite ?_ ?_
   | refine LeO.bind ?_ (fun _ => ?_)
  ·intro y0 y1 y2 y3 y4 y5
   unfold impl_Differ.j2
   repeat' first
   | (with_reducible exact ih0 _ _ _)
   | (with_reducible exact ih1 _ _ _ _ _)
   | (with_reducible exact ih2 _ _ _ _ _ _)
   | (with_reducible exact ih3 _ _ _ _ _ _)
   | (with_reducible exact ih4 _ _ _ _ _ _)
   | (with_reducible exact impl_rising.mono _ _)
   | (with_reducible exact LeO.refl _)
   | (with_reducible exact LeO.none _)
   | (with_reducible refine LeO.ite ?_ ?_)
   | (with_reducible refine LeO.bind ?_ (fun _ => ?_))
   | exact ih0 _ _ _
   | exact ih1 _ _ _ _ _
   | exact ih2 _ _ _ _ _ _
   | exact ih3 _ _ _ _ _ _
   | exact ih4 _ _ _ _ _ _
   | exact impl_rising.mono _ _
   | exact LeO.none _
   | refine LeO.ite ?_ ?_
   | refine LeO.bind ?_ (fun _ => ?_)
  ·intro y0 y1 y2 y3 y4 y5
   unfold impl_Differ.j3
   repeat' first
   | (with_reducible exact ih0 _ _ _)
   | (with_reducible exact ih1 _ _ _ _ _)
   | (with_reducible exact ih2 _ _ _ _ _ _)
   | (with_reducible exact ih3 _ _ _ _ _ _)
   | (with_reducible exact ih4 _ _ _ _ _ _)
   | (with_reducible exact impl_rising.mono _ _)
   | (with_reducible exact LeO.refl _)
   | (with_reducible exact LeO.none _)
   | (with_reducible refine LeO.ite ?_ ?_)
   | (with_reducible refine LeO.bind ?_ (fun _ => ?_))
   | exact ih0 _ _ _
   | exact ih1 _ _ _ _ _
   | exact ih2 _ _ _ _ _ _
   | exact ih3 _ _ _ _ _ _
   | exact ih4 _ _ _ _ _ _
   | exact impl_rising.mono _ _
   | exact LeO.none _
   | refine LeO.ite ?_ ?_
   | refine LeO.bind ?_ (fun _ => ?_)
  ·intro y0 y1 y2 y3 y4 y5
   unfold impl_Differ.j4
   repeat' first
   | (with_reducible exact ih0 _ _ _)
   | (with_reducible exact ih1 _ _ _ _ _)
   | (with_reducible exact ih2 _ _ _ _ _ _)
   | (with_reducible exact ih3 _ _ _ _ _ _)
   | (with_reducible exact ih4 _ _ _ _ _ _)
   | (with_reducible exact impl_rising.mono _ _)
   | (with_reducible exact LeO.refl _)
   | (with_reducible exact LeO.none _)
   | (with_reducible refine LeO.ite ?_ ?_)
   | (with_reducible refine LeO.bind ?_ (fun _ => ?_))
   | exact ih0 _ _ _
   | exact ih1 _ _ _ _ _
   | exact ih2 _ _ _ _ _ _
   | exact ih3 _ _ _ _ _ _
   | exact ih4 _ _ _ _ _ _
   | exact impl_rising.mono _ _
   | exact LeO.none _
   | refine LeO.ite ?_ ?_
   | refine LeO.bind ?_ (fun _ => ?_)

theorem impl_Differ.mono : ∀ a0 a1 k, LeO (impl_Differ.f k a0 a1) (impl_Differ.f (k + 1) a0 a1) := by
 intro a0 a1 k
 obtain ⟨ih0, ih1, ih2, ih3, ih4⟩ := impl_Differ.mono_l k
 unfold impl_Differ.f
 repeat' first
   | (with_reducible exact ih0 _ _ _)
   | (with_reducible exact ih1 _ _ _ _ _)
   | (with_reducible exact ih2 _ _ _ _ _ _)
   | (with_reducible exact ih3 _ _ _ _ _ _)
   | (with_reducible exact ih4 _ _ _ _ _ _)
   | (with_reducible exact impl_rising.mono _ _)
   | (with_reducible exact LeO.refl _)
   | (with_reducible exact LeO.none _)
   | (with_reducible refine LeO.ite ?_ ?_)
   | (with_reducible refine LeO.bind ?_ (fun _ => ?_))
   | exact ih0 _ _ _
   | exact ih1 _ _ _ _ _
   | exact ih2 _ _ _ _ _ _
   | exact ih3 _ _ _ _ _ _
   | exact ih4 _ _ _ _ _ _
   | exact impl_rising.mono _ _
   | exact LeO.none _
   | refine LeO.ite ?_ ?_
   | refine LeO.bind ?_ (fun _ => ?_)

def impl_Differ.T7 : Bool × List (List Nat × List Nat) := (true, [([], []), ([], []), ([0, 1], [0, 1]), ([2], [2]), ([], []), ([], []), ([4, 5], [4, 5]), ([6], [6]), ([3, 7], [3, 7])])

def impl_Differ.B7 : List Nat := [0, 0, 3, 7, 0, 0, 48, 112, 255]

theorem impl_Differ.tab7 : rtab .any (opsOf Try.f34 7) = impl_Differ.T7 := by kernel_rfl

theorem impl_Differ.bits7 : waitsOk impl_Differ.T7.2 impl_Differ.B7 = true := by kernel_rfl

def impl_Differ.T11 : Bool × List (List Nat × List Nat) := (true, [([], []), ([], []), ([1], [1]), ([0, 2], [0, 2]), ([3], [3]), ([4], [4]), ([4], [4]), ([6, 4], [4, 6]), ([5, 7, 4], [4, 5, 7]), ([8, 4, 4], [4, 8]), ([9], [9]), ([9], [9]), ([10, 11, 9], [9, 10, 11]), ([12, 9], [9, 12]), ([13, 9], [9, 13]), ([9], [9]), ([9], [9]), ([15, 16, 9], [9, 15, 16]), ([17, 9], [9, 17]), ([18, 9], [9, 18]), ([14, 19, 9], [9, 14, 19]), ([9], [9]), ([9], [9]), ([21, 22, 9], [9, 21, 22]), ([23, 9], [9, 23]), ([24, 9], [9, 24]), ([9], [9]), ([9], [9]), ([26, 27, 9], [9, 26, 27]), ([28, 9], [9, 28]), ([29, 9], [9, 29]), ([25, 30, 9], [9, 25, 30]), ([20, 31, 9, 9], [9, 20, 31]), ([9, 32, 4], [4, 9, 32]), ([4, 33], [4, 33]), ([34, 32], [34])])

def impl_Differ.B11 : List Nat := [0, 0, 2, 7, 15, 31, 31, 95, 255, 511, 1023, 1023, 4095, 8191, 16383, 1023, 1023, 99327, 230399, 492543, 1048575, 1023, 1023, 6292479, 14681087, 31458303, 1023, 1023, 201327615, 469763071, 1006633983, 2145387519, 4294967295, 8589934591, 17179869183, 34359738367]

theorem impl_Differ.tab11 : rtab .any (opsOf Try.f34 11) = impl_Differ.T11 := by kernel_rfl

theorem impl_Differ.bits11 : waitsOk impl_Differ.T11.2 impl_Differ.B11 = true := by kernel_rfl

def impl_Differ.T12 : Bool × List (List Nat × List Nat) := (true, [([], []), ([], []), ([0, 1], [0, 1]), ([2], [2]), ([3], [3]), ([], []), ([], []), ([5, 6], [5, 6]), ([7], [7]), ([8], [8]), ([4, 9], [4, 9]), ([], []), ([11, 10, 0, 1, 2, 3, 4, 5, 6, 7, 8, 9, 10, 11], [10, 11])])

def impl_Differ.B12 : List Nat := [0, 0, 3, 7, 15, 0, 0, 96, 224, 480, 1023, 0, 4095]

theorem impl_Differ.tab12 : rtab .any (opsOf Try.f34 12) = impl_Differ.T12 := by kernel_rfl

theorem impl_Differ.bits12 : waitsOk impl_Differ.T12.2 impl_Differ.B12 = true := by kernel_rfl

def impl_Differ.T16 : Bool × List (List Nat × List Nat) := (true, [([], []), ([], []), ([1], [1]), ([0, 2], [0, 2]), ([3], [3]), ([4], [4]), ([4], [4]), ([5, 6, 4], [4, 5, 6]), ([7, 4], [4, 7]), ([8, 4], [4, 8]), ([4], [4]), ([4], [4]), ([10, 11, 4], [4, 10, 11]), ([12, 4], [4, 12]), ([13, 4], [4, 13]), ([9, 14, 4], [4, 9, 14]), ([4], [4]), ([4], [4]), ([16, 17, 4], [4, 16, 17]), ([18, 4], [4, 18]), ([19, 4], [4, 19]), ([4], [4]), ([4], [4]), ([21, 22, 4], [4, 21, 22]), ([23, 4], [4, 23]), ([24, 4], [4, 24]), ([20, 25, 4], [4, 20, 25]), ([15, 26, 4, 4], [4, 15, 26]), ([4, 27], [4, 27]), ([28, 27], [28])])

def impl_Differ.B16 : List Nat := [0, 0, 2, 7, 15, 31, 31, 127, 255, 511, 31, 31, 3103, 7199, 15391, 32767, 31, 31, 196639, 458783, 983071, 31, 31, 6291487, 14680095, 31457311, 67043359, 134217727, 268435455, 536870911]

theorem impl_Differ.tab16 : rtab .any (opsOf Try.f34 16) = impl_Differ.T16 := by kernel_rfl

theorem impl_Differ.bits16 : waitsOk impl_Differ.T16.2 impl_Differ.B16 = true := by kernel_rfl

def impl_Differ.T17 : Bool × List (List Nat × List Nat) := (true, [([], []), ([], []), ([0, 1], [0, 1]), ([2], [2]), ([], []), ([], []), ([4, 5], [4, 5]), ([6], [6]), ([7], [7]), ([], []), ([], []), ([9, 10], [9, 10]), ([11], [11]), ([12], [12]), ([8, 13], [8, 13]), ([3, 14], [3, 14])])

def impl_Differ.B17 : List Nat := [0, 0, 3, 7, 0, 0, 48, 112, 240, 0, 0, 1536, 3584, 7680, 16368, 32767]

theorem impl_Differ.tab17 : rtab .any (opsOf Try.f34 17) = impl_Differ.T17 := by kernel_rfl

theorem impl_Differ.bits17 : waitsOk impl_Differ.T17.2 impl_Differ.B17 = true := by kernel_rfl

abbrev bt4_0 : Array Bool := #[false, false, false, false, false, false, false, false, false, false, false, false, false, false, false, false, false, false, false, false, false, false, false, false, false, false, false, false, false, false, false, false, false, false, false, false]
abbrev bt4_1 : Array Bool := #[true, false, false, false, false, false, false, false, false, false, false, false, false, false, false, false, false, false, false, false, false, false, false, false, false, false, false, false, false, false, false, false, false, false, false, false]
abbrev bt4_2 : Array Bool := #[true, true, false, false, false, false, false, false, false, false, false, false, false, false, false, false, false, false, false, false, false, false, false, false, false, false, false, false, false, false, false, false, false, false, false, false]
abbrev bt4_3 : Array Bool := #[true, true, true, false, false, false, false, false, false, false, false, false, false, false, false, false, false, false, false, false, false, false, false, false, false, false, false, false, false, false, false, false, false, false, false, false]
abbrev bt4_4 : Array Bool := #[true, true, true, true, false, false, false, false, false, false, false, false, false, false, false, false, false, false, false, false, false, false, false, false, false, false, false, false, false, false, false, false, false, false, false, false]
abbrev bt4_5 : Array Bool := #[true, true, true, true, true, false, false, false, false, false, false, false, false, false, false, false, false, false, false, false, false, false, false, false, false, false, false, false, false, false, false, false, false, false, false, false]
abbrev bt4_6 : Array Bool := #[true, true, true, true, true, true, false, false, false, false, false, false, false, false, false, false, false, false, false, false, false, false, false, false, false, false, false, false, false, false, false, false, false, false, false, false]
abbrev bt4_7 : Array Bool := #[true, true, true, true, true, true, true, false, false, false, false, false, false, false, false, false, false, false, false, false, false, false, false, false, false, false, false, false, false, false, false, false, false, false, false, false]
abbrev bt4_8 : Array Bool := #[true, true, true, true, true, true, true, true, false, false, false, false, false, false, false, false, false, false, false, false, false, false, false, false, false, false, false, false, false, false, false, false, false, false, false, false]
abbrev bt4_9 : Array Bool := #[true, true, true, true, true, true, true, true, true, false, false, false, false, false, false, false, false, false, false, false, false, false, false, false, false, false, false, false, false, false, false, false, false, false, false, false]
abbrev bt4_10 : Array Bool := #[true, true, true, true, true, true, true, true, true, true, false, false, false, false, false, false, false, false, false, false, false, false, false, false, false, false, false, false, false, false, false, false, false, false, false, false]
abbrev bt4_11 : Array Bool := #[true, true, true, true, true, true, true, true, true, true, true, false, false, false, false, false, false, false, false, false, false, false, false, false, false, false, false, false, false, false, false, false, false, false, false, false]
abbrev bt4_12 : Array Bool := #[true, true, true, true, true, true, true, true, true, true, true, true, false, false, false, false, false, false, false, false, false, false, false, false, false, false, false, false, false, false, false, false, false, false, false, false]
abbrev bt4_13 : Array Bool := #[true, true, true, true, true, true, true, true, true, true, true, true, true, false, false, false, false, false, false, false, false, false, false, false, false, false, false, false, false, false, false, false, false, false, false, false]
abbrev bt4_14 : Array Bool := #[true, true, true, true, true, true, true, true, true, true, true, true, true, true, false, false, false, false, false, false, false, false, false, false, false, false, false, false, false, false, false, false, false, false, false, false]
abbrev bt4_15 : Array Bool := #[true, true, true, true, true, true, true, true, true, true, true, true, true, true, true, false, false, false, false, false, false, false, false, false, false, false, false, false, false, false, false, false, false, false, false, false]
abbrev bt4_16 : Array Bool := #[true, true, true, true, true, true, true, true, true, true, true, true, true, true, true, true, false, false, false, false, false, false, false, false, false, false, false, false, false, false, false, false, false, false, false, false]
abbrev bt4_17 : Array Bool := #[true, true, true, true, true, true, true, true, true, true, true, true, true, true, true, true, true, false, false, false, false, false, false, false, false, false, false, false, false, false, false, false, false, false, false, false]
abbrev bt4_18 : Array Bool := #[true, true, true, true, true, true, true, true, true, true, true, true, true, true, true, true, true, true, false, false, false, false, false, false, false, false, false, false, false, false, false, false, false, false, false, false]
abbrev bt4_19 : Array Bool := #[true, true, true, true, true, true, true, true, true, true, true, true, true, true, true, true, true, true, true, false, false, false, false, false, false, false, false, false, false, false, false, false, false, false, false, false]
abbrev bt4_20 : Array Bool := #[true, true, true, true, true, true, true, true, true, true, true, true, true, true, true, true, true, true, true, true, false, false, false, false, false, false, false, false, false, false, false, false, false, false, false, false]
abbrev bt4_21 : Array Bool := #[true, true, true, true, true, true, true, true, true, true, true, true, true, true, true, true, true, true, true, true, true, false, false, false, false, false, false, false, false, false, false, false, false, false, false, false]
abbrev bt4_22 : Array Bool := #[true, true, true, true, true, true, true, true, true, true, true, true, true, true, true, true, true, true, true, true, true, true, false, false, false, false, false, false, false, false, false, false, false, false, false, false]
abbrev bt4_23 : Array Bool := #[true, true, true, true, true, true, true, true, true, true, true, true, true, true, true, true, true, true, true, true, true, true, true, false, false, false, false, false, false, false, false, false, false, false, false, false]
abbrev bt4_24 : Array Bool := #[true, true, true, true, true, true, true, true, true, true, true, true, true, true, true, true, true, true, true, true, true, true, true, true, false, false, false, false, false, false, false, false, false, false, false, false]
abbrev bt4_25 : Array Bool := #[true, true, true, true, true, true, true, true, true, true, true, true, true, true, true, true, true, true, true, true, true, true, true, true, true, false, false, false, false, false, false, false, false, false, false, false]
abbrev bt4_26 : Array Bool := #[true, true, true, true, true, true, true, true, true, true, true, true, true, true, true, true, true, true, true, true, true, true, true, true, true, true, false, false, false, false, false, false, false, false, false, false]
abbrev bt4_27 : Array Bool := #[true, true, true, true, true, true, true, true, true, true, true, true, true, true, true, true, true, true, true, true, true, true, true, true, true, true, true, false, false, false, false, false, false, false, false, false]
abbrev bt4_28 : Array Bool := #[true, true, true, true, true, true, true, true, true, true, true, true, true, true, true, true, true, true, true, true, true, true, true, true, true, true, true, true, false, false, false, false, false, false, false, false]
abbrev bt4_29 : Array Bool := #[true, true, true, true, true, true, true, true, true, true, true, true, true, true, true, true, true, true, true, true, true, true, true, true, true, true, true, true, true, false, false, false, false, false, false, false]
abbrev bt4_30 : Array Bool := #[true, true, true, true, true, true, true, true, true, true, true, true, true, true, true, true, true, true, true, true, true, true, true, true, true, true, true, true, true, true, false, false, false, false, false, false]
abbrev bt4_31 : Array Bool := #[true, true, true, true, true, true, true, true, true, true, true, true, true, true, true, true, true, true, true, true, true, true, true, true, true, true, true, true, true, true, true, false, false, false, false, false]
abbrev bt4_32 : Array Bool := #[true, true, true, true, true, true, true, true, true, true, true, true, true, true, true, true, true, true, true, true, true, true, true, true, true, true, true, true, true, true, true, true, false, false, false, false]
abbrev bt4_33 : Array Bool := #[true, true, true, true, true, true, true, true, true, true, true, true, true, true, true, true, true, true, true, true, true, true, true, true, true, true, true, true, true, true, true, true, true, false, false, false]
abbrev bt4_34 : Array Bool := #[true, true, true, true, true, true, true, true, true, true, true, true, true, true, true, true, true, true, true, true, true, true, true, true, true, true, true, true, true, true, true, true, true, true, false, false]
abbrev bt4_35 : Array Bool := #[true, true, true, true, true, true, true, true, true, true, true, true, true, true, true, true, true, true, true, true, true, true, true, true, true, true, true, true, true, true, true, true, true, true, true, false]
abbrev bt4_36 : Array Bool := #[true, true, true, true, true, true, true, true, true, true, true, true, true, true, true, true, true, true, true, true, true, true, true, true, true, true, true, true, true, true, true, true, true, true, true, true]
abbrev bt4_37 : Array Bool := #[true, true, true, true, true, true, true, true, true, true, true, true, true, true, false, true, false, false, false, false, false, false, false, false, false, false, false, false, false, false, false, false, false, false, false, false]
abbrev bt4_38 : Array Bool := #[true, true, true, true, true, true, true, true, true, true, true, true, true, true, false, true, true, false, false, false, false, false, false, false, false, false, false, false, false, false, false, false, false, false, false, false]
abbrev bt4_39 : Array Bool := #[true, true, true, true, true, true, true, true, true, true, true, true, true, true, false, true, true, true, false, false, false, false, false, false, false, false, false, false, false, false, false, false, false, false, false, false]
abbrev bt4_40 : Array Bool := #[true, true, true, true, true, true, true, true, true, true, true, true, true, true, false, true, true, true, true, false, false, false, false, false, false, false, false, false, false, false, false, false, false, false, false, false]
abbrev bt4_41 : Array Bool := #[true, true, true, true, true, true, true, true, true, true, true, true, true, true, false, true, true, true, true, false, false, true, false, false, false, false, false, false, false, false, false, false, false, false, false, false]
abbrev bt4_42 : Array Bool := #[true, true, true, true, true, true, true, true, true, true, true, true, true, true, false, true, true, true, true, false, false, true, true, false, false, false, false, false, false, false, false, false, false, false, false, false]
abbrev bt4_43 : Array Bool := #[true, true, true, true, true, true, true, true, true, true, true, true, true, true, false, true, true, true, true, false, false, true, true, true, false, false, false, false, false, false, false, false, false, false, false, false]
abbrev bt4_44 : Array Bool := #[true, true, true, true, true, true, true, true, true, true, true, true, true, true, false, true, true, true, true, false, false, true, true, true, true, false, false, false, false, false, false, false, false, false, false, false]
abbrev bt4_45 : Array Bool := #[true, true, true, true, true, true, true, true, true, true, true, true, true, true, false, true, true, true, true, false, false, true, true, true, true, false, true, false, false, false, false, false, false, false, false, false]
abbrev bt4_46 : Array Bool := #[true, true, true, true, true, true, true, true, true, true, true, true, true, true, false, true, true, true, true, false, false, true, true, true, true, false, true, true, false, false, false, false, false, false, false, false]
abbrev bt4_47 : Array Bool := #[true, true, true, true, true, true, true, true, true, true, true, true, true, true, false, true, true, true, true, false, false, true, true, true, true, false, true, true, true, false, false, false, false, false, false, false]
abbrev bt4_48 : Array Bool := #[true, true, true, true, true, true, true, true, true, true, true, true, true, true, false, true, true, true, true, false, false, true, true, true, true, false, true, true, true, true, false, false, false, false, false, false]
abbrev bt4_49 : Array Bool := #[true, true, true, true, true, true, true, true, true, true, true, true, true, true, true, true, true, true, true, false, false, true, true, true, true, false, true, true, true, true, false, false, false, false, false, false]
abbrev bt4_50 : Array Bool := #[true, true, true, true, true, true, true, true, true, true, true, true, true, true, true, true, true, true, true, true, false, true, true, true, true, false, true, true, true, true, false, false, false, false, false, false]
abbrev bt4_51 : Array Bool := #[true, true, true, true, true, true, true, true, true, true, true, true, true, true, true, true, true, true, true, true, true, true, true, true, true, false, true, true, true, true, false, false, false, false, false, false]
abbrev bt4_52 : Array Bool := #[false, false, false, false, false, false, false, false, false, false, false, false, false]
abbrev bt4_53 : Array Bool := #[true, false, false, false, false, false, false, false, false, false, false, false, false]
abbrev bt4_54 : Array Bool := #[true, true, false, false, false, false, false, false, false, false, false, false, false]
abbrev bt4_55 : Array Bool := #[true, true, true, false, false, false, false, false, false, false, false, false, false]
abbrev bt4_56 : Array Bool := #[true, true, true, true, false, false, false, false, false, false, false, false, false]
abbrev bt4_57 : Array Bool := #[true, true, true, true, false, true, false, false, false, false, false, false, false]
abbrev bt4_58 : Array Bool := #[true, true, true, true, false, true, true, false, false, false, false, false, false]
abbrev bt4_59 : Array Bool := #[true, true, true, true, false, true, true, true, false, false, false, false, false]
abbrev bt4_60 : Array Bool := #[true, true, true, true, false, true, true, true, true, false, false, false, false]
abbrev bt4_61 : Array Bool := #[true, true, true, true, true, true, true, true, true, false, false, false, false]
abbrev bt4_62 : Array Bool := #[true, true, true, true, true, true, true, true, true, true, false, false, false]
abbrev bt4_63 : Array Bool := #[true, true, true, true, true, true, true, true, true, true, true, false, false]
abbrev bt4_64 : Array Bool := #[true, true, true, true, true, true, true, true, true, true, true, true, false]
abbrev bt4_65 : Array Bool := #[true, true, true, true, true, true, true, true, true, true, true, true, true]
abbrev bt4_66 : Array Bool := #[false, false, false, false, false, false]
abbrev bt4_67 : Array Bool := #[true, false, false, false, false, false]
abbrev bt4_68 : Array Bool := #[true, true, false, false, false, false]
abbrev bt4_69 : Array Bool := #[true, true, true, false, false, false]
abbrev bt4_70 : Array Bool := #[false, false, false, false, false, false, false, false, false, false, false, false, false, false, false, false, false, false, false, false, false, false, false, false, false, false, false, false, false, false]
abbrev bt4_71 : Array Bool := #[true, false, false, false, false, false, false, false, false, false, false, false, false, false, false, false, false, false, false, false, false, false, false, false, false, false, false, false, false, false]
abbrev bt4_72 : Array Bool := #[true, true, false, false, false, false, false, false, false, false, false, false, false, false, false, false, false, false, false, false, false, false, false, false, false, false, false, false, false, false]
abbrev bt4_73 : Array Bool := #[true, true, true, false, false, false, false, false, false, false, false, false, false, false, false, false, false, false, false, false, false, false, false, false, false, false, false, false, false, false]
abbrev bt4_74 : Array Bool := #[true, true, true, true, false, false, false, false, false, false, false, false, false, false, false, false, false, false, false, false, false, false, false, false, false, false, false, false, false, false]
abbrev bt4_75 : Array Bool := #[true, true, true, true, true, false, false, false, false, false, false, false, false, false, false, false, false, false, false, false, false, false, false, false, false, false, false, false, false, false]
abbrev bt4_76 : Array Bool := #[true, true, true, true, true, true, false, false, false, false, false, false, false, false, false, false, false, false, false, false, false, false, false, false, false, false, false, false, false, false]
abbrev bt4_77 : Array Bool := #[true, true, true, true, true, true, true, false, false, false, false, false, false, false, false, false, false, false, false, false, false, false, false, false, false, false, false, false, false, false]
abbrev bt4_78 : Array Bool := #[true, true, true, true, true, true, true, true, false, false, false, false, false, false, false, false, false, false, false, false, false, false, false, false, false, false, false, false, false, false]
abbrev bt4_79 : Array Bool := #[true, true, true, true, true, true, true, true, true, false, false, false, false, false, false, false, false, false, false, false, false, false, false, false, false, false, false, false, false, false]
abbrev bt4_80 : Array Bool := #[true, true, true, true, true, true, true, true, true, true, false, false, false, false, false, false, false, false, false, false, false, false, false, false, false, false, false, false, false, false]
abbrev bt4_81 : Array Bool := #[true, true, true, true, true, true, true, true, true, true, true, false, false, false, false, false, false, false, false, false, false, false, false, false, false, false, false, false, false, false]
abbrev bt4_82 : Array Bool := #[true, true, true, true, true, true, true, true, true, true, true, true, false, false, false, false, false, false, false, false, false, false, false, false, false, false, false, false, false, false]
abbrev bt4_83 : Array Bool := #[true, true, true, true, true, true, true, true, true, true, true, true, true, false, false, false, false, false, false, false, false, false, false, false, false, false, false, false, false, false]
abbrev bt4_84 : Array Bool := #[true, true, true, true, true, true, true, true, true, true, true, true, true, true, false, false, false, false, false, false, false, false, false, false, false, false, false, false, false, false]
abbrev bt4_85 : Array Bool := #[true, true, true, true, true, true, true, true, true, true, true, true, true, true, true, false, false, false, false, false, false, false, false, false, false, false, false, false, false, false]
abbrev bt4_86 : Array Bool := #[true, true, true, true, true, true, true, true, true, true, true, true, true, true, true, true, false, false, false, false, false, false, false, false, false, false, false, false, false, false]
abbrev bt4_87 : Array Bool := #[true, true, true, true, true, true, true, true, true, true, true, true, true, true, true, true, true, false, false, false, false, false, false, false, false, false, false, false, false, false]
abbrev bt4_88 : Array Bool := #[true, true, true, true, true, true, true, true, true, true, true, true, true, true, true, true, true, true, false, false, false, false, false, false, false, false, false, false, false, false]
abbrev bt4_89 : Array Bool := #[true, true, true, true, true, true, true, true, true, true, true, true, true, true, true, true, true, true, true, false, false, false, false, false, false, false, false, false, false, false]
abbrev bt4_90 : Array Bool := #[true, true, true, true, true, true, true, true, true, true, true, true, true, true, true, true, true, true, true, true, false, false, false, false, false, false, false, false, false, false]
abbrev bt4_91 : Array Bool := #[true, true, true, true, true, true, true, true, true, true, true, true, true, true, true, true, true, true, true, true, true, false, false, false, false, false, false, false, false, false]
abbrev bt4_92 : Array Bool := #[true, true, true, true, true, true, true, true, true, true, true, true, true, true, true, true, true, true, true, true, true, true, false, false, false, false, false, false, false, false]
abbrev bt4_93 : Array Bool := #[true, true, true, true, true, true, true, true, true, true, true, true, true, true, true, true, true, true, true, true, true, true, true, false, false, false, false, false, false, false]
abbrev bt4_94 : Array Bool := #[true, true, true, true, true, true, true, true, true, true, true, true, true, true, true, true, true, true, true, true, true, true, true, true, false, false, false, false, false, false]
abbrev bt4_95 : Array Bool := #[true, true, true, true, true, true, true, true, true, true, true, true, true, true, true, true, true, true, true, true, true, true, true, true, true, false, false, false, false, false]
abbrev bt4_96 : Array Bool := #[true, true, true, true, true, true, true, true, true, true, true, true, true, true, true, true, true, true, true, true, true, true, true, true, true, true, false, false, false, false]
abbrev bt4_97 : Array Bool := #[true, true, true, true, true, true, true, true, true, true, true, true, true, true, true, true, true, true, true, true, true, true, true, true, true, true, true, false, false, false]
abbrev bt4_98 : Array Bool := #[true, true, true, true, true, true, true, true, true, true, true, true, true, true, true, true, true, true, true, true, true, true, true, true, true, true, true, true, false, false]
abbrev bt4_99 : Array Bool := #[true, true, true, true, true, true, true, true, true, true, true, true, true, true, true, true, true, true, true, true, true, true, true, true, true, true, true, true, true, false]
abbrev bt4_100 : Array Bool := #[true, true, true, true, true, true, true, true, true, true, true, true, true, true, true, true, true, true, true, true, true, true, true, true, true, true, true, true, true, true]
abbrev bt4_101 : Array Bool := #[true, true, true, true, true, true, true, true, true, false, true, false, false, false, false, false, false, false, false, false, false, false, false, false, false, false, false, false, false, false]
abbrev bt4_102 : Array Bool := #[true, true, true, true, true, true, true, true, true, false, true, true, false, false, false, false, false, false, false, false, false, false, false, false, false, false, false, false, false, false]
abbrev bt4_103 : Array Bool := #[true, true, true, true, true, true, true, true, true, false, true, true, true, false, false, false, false, false, false, false, false, false, false, false, false, false, false, false, false, false]
abbrev bt4_104 : Array Bool := #[true, true, true, true, true, true, true, true, true, false, true, true, true, true, false, false, false, false, false, false, false, false, false, false, false, false, false, false, false, false]
abbrev bt4_105 : Array Bool := #[true, true, true, true, true, true, true, true, true, false, true, true, true, true, false, false, true, false, false, false, false, false, false, false, false, false, false, false, false, false]
abbrev bt4_106 : Array Bool := #[true, true, true, true, true, true, true, true, true, false, true, true, true, true, false, false, true, true, false, false, false, false, false, false, false, false, false, false, false, false]
abbrev bt4_107 : Array Bool := #[true, true, true, true, true, true, true, true, true, false, true, true, true, true, false, false, true, true, true, false, false, false, false, false, false, false, false, false, false, false]
abbrev bt4_108 : Array Bool := #[true, true, true, true, true, true, true, true, true, false, true, true, true, true, false, false, true, true, true, true, false, false, false, false, false, false, false, false, false, false]
abbrev bt4_109 : Array Bool := #[true, true, true, true, true, true, true, true, true, false, true, true, true, true, false, false, true, true, true, true, false, true, false, false, false, false, false, false, false, false]
abbrev bt4_110 : Array Bool := #[true, true, true, true, true, true, true, true, true, false, true, true, true, true, false, false, true, true, true, true, false, true, true, false, false, false, false, false, false, false]
abbrev bt4_111 : Array Bool := #[true, true, true, true, true, true, true, true, true, false, true, true, true, true, false, false, true, true, true, true, false, true, true, true, false, false, false, false, false, false]
abbrev bt4_112 : Array Bool := #[true, true, true, true, true, true, true, true, true, false, true, true, true, true, false, false, true, true, true, true, false, true, true, true, true, false, false, false, false, false]
abbrev bt4_113 : Array Bool := #[true, true, true, true, true, true, true, true, true, true, true, true, true, true, false, false, true, true, true, true, false, true, true, true, true, false, false, false, false, false]
abbrev bt4_114 : Array Bool := #[true, true, true, true, true, true, true, true, true, true, true, true, true, true, true, false, true, true, true, true, false, true, true, true, true, false, false, false, false, false]
abbrev bt4_115 : Array Bool := #[true, true, true, true, true, true, true, true, true, true, true, true, true, true, true, true, true, true, true, true, false, true, true, true, true, false, false, false, false, false]
abbrev bt4_116 : Array Bool := #[false, false, false, false, false, false, false, false, false, false, false, false, false, false, false, false]
abbrev bt4_117 : Array Bool := #[true, false, false, false, false, false, false, false, false, false, false, false, false, false, false, false]
abbrev bt4_118 : Array Bool := #[true, true, false, false, false, false, false, false, false, false, false, false, false, false, false, false]
abbrev bt4_119 : Array Bool := #[true, true, true, false, false, false, false, false, false, false, false, false, false, false, false, false]
abbrev bt4_120 : Array Bool := #[true, true, true, false, true, false, false, false, false, false, false, false, false, false, false, false]
abbrev bt4_121 : Array Bool := #[true, true, true, false, true, true, false, false, false, false, false, false, false, false, false, false]
abbrev bt4_122 : Array Bool := #[true, true, true, false, true, true, true, false, false, false, false, false, false, false, false, false]
abbrev bt4_123 : Array Bool := #[true, true, true, false, true, true, true, true, false, false, false, false, false, false, false, false]
abbrev bt4_124 : Array Bool := #[true, true, true, false, true, true, true, true, false, true, false, false, false, false, false, false]
abbrev bt4_125 : Array Bool := #[true, true, true, false, true, true, true, true, false, true, true, false, false, false, false, false]
abbrev bt4_126 : Array Bool := #[true, true, true, false, true, true, true, true, false, true, true, true, false, false, false, false]
abbrev bt4_127 : Array Bool := #[true, true, true, false, true, true, true, true, false, true, true, true, true, false, false, false]
abbrev bt4_128 : Array Bool := #[true, true, true, true, true, true, true, true, false, true, true, true, true, false, false, false]
abbrev bt4_129 : Array Bool := #[true, true, true, true, true, true, true, true, true, true, true, true, true, false, false, false]
abbrev bt4_130 : Array Bool := #[true, true, true, true, true, true, true, true, true, true, true, true, true, true, false, false]
abbrev bt4_131 : Array Bool := #[true, true, true, true, true, true, true, true, true, true, true, true, true, true, true, false]
abbrev bt4_132 : Array Bool := #[true, true, true, true, true, true, true, true, true, true, true, true, true, true, true, true]
abbrev bt4_133 : Array Bool := #[false, false, false, false, false, false, false, false, false]
abbrev bt4_134 : Array Bool := #[true, false, false, false, false, false, false, false, false]
abbrev bt4_135 : Array Bool := #[true, true, false, false, false, false, false, false, false]
abbrev bt4_136 : Array Bool := #[true, true, true, false, false, false, false, false, false]
abbrev bt4_137 : Array Bool := #[true, true, true, false, true, false, false, false, false]
abbrev bt4_138 : Array Bool := #[true, true, true, false, true, true, false, false, false]
abbrev bt4_139 : Array Bool := #[true, true, true, false, true, true, true, false, false]
abbrev bt4_140 : Array Bool := #[true, true, true, true, true, true, true, false, false]
abbrev bt4_141 : Array Bool := #[true, true, true, true, true, true, true, true, false]
abbrev bt4_142 : Array Bool := #[true, true, true, true, true, true, true, true, true]

end Go.Proofs.Ytojfkjggpdlngaa.PFnExactDiffer
