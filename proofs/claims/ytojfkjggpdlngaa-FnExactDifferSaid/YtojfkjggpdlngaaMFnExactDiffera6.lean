/- Functions of the program as Lean functions, and proofs that the Go code comes to their answers: for the law FnExactDiffer; made out of the print by a program of mine (compact.py). No conditions but each theorem's own. -/
import Derived.Test.YtojfkjggpdlngaaMFnExactDiffera0
import Derived.Test.YtojfkjggpdlngaaMFnExactDiffera5
namespace Go.Proofs.Ytojfkjggpdlngaa.PFnExactDiffer
open List (map_toArray map_cons map_nil length_drop length_take set_cons_zero set_cons_succ setIfInBounds_toArray)
open Go.RowKit Go.Proofs.YtojfkjggpdlngaaW.PrintWords Go.Proofs.YtojfkjggpdlngaaW.PrintLast Go.Proofs.YtojfkjggpdlngaaW.PrintMore
attribute [local go_sem] max2_int min2_int max_two min_two max_three min_three max_four min_four   -- for this text's walks alone
set_option linter.unusedVariables false
set_option linter.unusedSimpArgs false

attribute [local go_sem high] eqA107
abbrev bt6_0 : Array Bool := #[false, false, false, false, false, false, false, false, false, false]
abbrev bt6_1 : Array Bool := #[true, false, false, false, false, false, false, false, false, false]
abbrev bt6_2 : Array Bool := #[true, true, false, false, false, false, false, false, false, false]
abbrev bt6_3 : Array Bool := #[true, true, true, false, false, false, false, false, false, false]
abbrev bt6_4 : Array Bool := #[true, true, true, false, true, false, false, false, false, false]
abbrev bt6_5 : Array Bool := #[true, true, true, false, true, true, false, false, false, false]
abbrev bt6_6 : Array Bool := #[true, true, true, false, true, true, true, false, false, false]
abbrev bt6_7 : Array Bool := #[true, true, true, true, true, true, true, false, false, false]
abbrev bt6_8 : Array Bool := #[true, true, true, true, true, true, true, true, false, false]
abbrev bt6_9 : Array Bool := #[true, true, true, true, true, true, true, true, true, false]
abbrev bt6_10 : Array Bool := #[true, true, true, true, true, true, true, true, true, true]
set_option maxHeartbeats 100000000 in
set_option maxRecDepth 100000 in
theorem laws_eqShown.calls (a0_0 : Int) (a0_1 : Int) (a0_2 : Int) (a0_3 : Bool) (a0_4 : Int) (a0_5 : Int) (a0_6 : ByteArray) (a0_7 : Bool) (a1_0 : Int) (a1_1 : Int) (a1_2 : Int) (a1_3 : Bool) (a1_4 : Int) (a1_5 : Int) (a1_6 : ByteArray) (a1_7 : Bool) (r : Bool) (w : World) (h : laws_eqShown.f a0_0 a0_1 a0_2 a0_3 a0_4 a0_5 a0_6 a0_7 a1_0 a1_1 a1_2 a1_3 a1_4 a1_5 a1_6 a1_7 = some r) :
  Calls Try.prog 73 #[.agg #[.int .i64 a0_0, .int .i64 a0_1, .int .i64 a0_2, .bool a0_3, .int .i64 a0_4, .int .i64 a0_5, .string a0_6, .bool a0_7], .agg #[.int .i64 a1_0, .int .i64 a1_1, .int .i64 a1_2, .bool a1_3, .int .i64 a1_4, .int .i64 a1_5, .string a1_6, .bool a1_7]] w fun e w' => e = .returned (.bool r) ∧ Below w.heap.size w w' := by
 have H : (if a0_0 = a1_0 then (if a0_1 = a1_1 then ((laws_eqValue.f a0_2 a0_3 a0_4 a0_5 a0_6 a1_2 a1_3 a1_4 a1_5 a1_6).bind fun t213 => (if t213 = true then (if (a0_7 != a1_7) = true then (some false) else (some true)) else (some false))) else (some false)) else (some false)) = some r := h
 by_cases c3 : a0_0 = a1_0
 ·rw [if_pos c3] at H
  by_cases c4 : a0_1 = a1_1
  ·rw [if_pos c4] at H
   replace H := Option.bind_eq_some_iff.mp H
   obtain ⟨t213, A50, H⟩ := H
   replace H : (if t213 = true then (if (a0_7 != a1_7) = true then (some false) else (some true)) else (some false)) = some r := H
   have A5 := Aside0.mk A50
   clear A50
   by_cases c6 : t213 = true
   ·exact laws_eqShown.calls_p1 a0_0 a0_1 a0_2 a0_3 a0_4 a0_5 a0_6 a0_7 a1_0 a1_1 a1_2 a1_3 a1_4 a1_5 a1_6 a1_7 r w t213 A5 c3 c4 c6 H
   ·exact laws_eqShown.calls_p2 a0_0 a0_1 a0_2 a0_3 a0_4 a0_5 a0_6 a0_7 a1_0 a1_1 a1_2 a1_3 a1_4 a1_5 a1_6 a1_7 r w t213 A5 c3 c4 c6 H
  ·rw [if_neg c4] at H
   exact laws_eqShown.calls_p3 a0_0 a0_1 a0_2 a0_3 a0_4 a0_5 a0_6 a0_7 a1_0 a1_1 a1_2 a1_3 a1_4 a1_5 a1_6 a1_7 r w c3 c4 H
 ·rw [if_neg c3] at H
  exact laws_eqShown.calls_p4 a0_0 a0_1 a0_2 a0_3 a0_4 a0_5 a0_6 a0_7 a1_0 a1_1 a1_2 a1_3 a1_4 a1_5 a1_6 a1_7 r w c3 H

/-! ### laws_eqShownS: function 35 -/

def laws_eqShownS.l0 : Nat → List (S107) → List (S107) → Int → Option (Bool)
 | 0, _, _, _ => none
 | k + 1, x0, x1, x5 => if x5 < (x0.length : Int) then (if 0 ≤ x5 then (if x5 < (x1.length : Int) then ((laws_eqShown.f ((rd_T107 x0 x5).f0) ((rd_T107 x0 x5).f1) ((rd_T107 x0 x5).f2.f0) ((rd_T107 x0 x5).f2.f1.f0) ((rd_T107 x0 x5).f2.f1.f1) ((rd_T107 x0 x5).f2.f1.f2) ((rd_T107 x0 x5).f2.f2) ((rd_T107 x0 x5).f3) ((rd_T107 x1 x5).f0) ((rd_T107 x1 x5).f1) ((rd_T107 x1 x5).f2.f0) ((rd_T107 x1 x5).f2.f1.f0) ((rd_T107 x1 x5).f2.f1.f1) ((rd_T107 x1 x5).f2.f1.f2) ((rd_T107 x1 x5).f2.f2) ((rd_T107 x1 x5).f3)).bind fun t216 => (if t216 = true then (laws_eqShownS.l0 k x0 x1 (wrap64 (x5 + 1))) else (some false))) else (none)) else (none)) else (some true)

def laws_eqShownS.f (k : Nat) (l0 : List (S107)) (l1 : List (S107)) : Option (Bool) := if (l0.length : Int) = (l1.length : Int) then (laws_eqShownS.l0 k l0 l1 0) else (some false)

theorem laws_eqShownS.mono_l : ∀ k, (∀ y0 y1 y2, LeO (laws_eqShownS.l0 k y0 y1 y2) (laws_eqShownS.l0 (k + 1) y0 y1 y2))
 | 0 => fun _ _ _ r h => by simp [laws_eqShownS.l0] at h
 | k + 1 => by
  have ih0 := laws_eqShownS.mono_l k
  ·intro y0 y1 y2
   unfold laws_eqShownS.l0
   repeat' first
   | (with_reducible exact ih0 _ _ _)
   | (with_reducible exact LeO.refl _)
   | (with_reducible exact LeO.none _)
   | (with_reducible refine LeO.ite ?_ ?_)
   | (with_reducible refine LeO.bind ?_ (fun _ => ?_))
   | exact ih0 _ _ _
   | exact LeO.none _
   | refine LeO.ite ?_ ?_
   | refine LeO.bind ?_ (fun _ => ?_)

theorem laws_eqShownS.mono : ∀ a0 a1 k, LeO (laws_eqShownS.f k a0 a1) (laws_eqShownS.f (k + 1) a0 a1) := by
 intro a0 a1 k
 have ih0 := laws_eqShownS.mono_l k
 unfold laws_eqShownS.f
 repeat' first
   | (with_reducible exact ih0 _ _ _)
   | (with_reducible exact LeO.refl _)
   | (with_reducible exact LeO.none _)
   | (with_reducible refine LeO.ite ?_ ?_)
   | (with_reducible refine LeO.bind ?_ (fun _ => ?_))
   | exact ih0 _ _ _
   | exact LeO.none _
   | refine LeO.ite ?_ ?_
   | refine LeO.bind ?_ (fun _ => ?_)

def laws_eqShownS.T6 : Bool × List (List Nat × List Nat) := (true, [([], []), ([], []), ([0, 1], [0, 1]), ([2], [2]), ([], []), ([], []), ([4, 5], [4, 5]), ([6], [6]), ([3, 7], [3, 7]), ([8], [8])])

def laws_eqShownS.B6 : List Nat := [0, 0, 3, 7, 0, 0, 48, 112, 255, 511]

theorem laws_eqShownS.tab6 : rtab .any (opsOf Try.f35 6) = laws_eqShownS.T6 := by kernel_rfl

theorem laws_eqShownS.bits6 : waitsOk laws_eqShownS.T6.2 laws_eqShownS.B6 = true := by kernel_rfl

set_option maxHeartbeats 100000000 in
set_option maxRecDepth 100000 in
theorem laws_eqShownS.calls (k : Nat) (A0 : Option Addr) (c0 : Nat) (l0 : List (S107)) (A1 : Option Addr) (c1 : Nat) (l1 : List (S107)) (r : Bool) (w : World) (hr0 : Kd.C k107 w A0 l0.length l0) (hc0 : l0.length ≤ c0) (hr1 : Kd.C k107 w A1 l1.length l1) (hc1 : l1.length ≤ c1) (h : laws_eqShownS.f k l0 l1 = some r) :
  Calls Try.prog 35 #[.slice A0 l0.length c0, .slice A1 l1.length c1] w fun e w' => e = .returned (.bool r) ∧ Below w.heap.size w w' := by
 have hu107 := Try.underlying107
 have HR0 := Aside0.mk hr0
 have HC0 := Aside0.mk hc0
 clear hr0 hc0
 have HR1 := Aside0.mk hr1
 have HC1 := Aside0.mk hc1
 clear hr1 hc1
 have HB := Aside0.mk (Below.refl w.heap.size w)
 have H : (if (l0.length : Int) = (l1.length : Int) then (laws_eqShownS.l0 k l0 l1 0) else (some false)) = some r := h
 clear h
 by_cases c3 : (l0.length : Int) = (l1.length : Int)
 ·rw [if_pos c3] at H
  have c3b0 : ((l0.length : Int) == (l1.length : Int)) = true := beq_iff_eq.mpr c3
  have c3b1 : ((l0.length : Int) != (l1.length : Int)) = false := bne_eq_false_iff_eq.mpr c3
  have c3b2 : (l0.length == l1.length) = true := by first | simpa using c3 | (simp at c3 ⊢; omega)
  clear c3
  have H' := Aside0.mk H
  clear H
  go_enter Try.func35, Try.ntmps35
  go_wp2
  go_loopg [5] k (fun kq v5 w' => ∃ (x5_1 : Int), v5 = .int .i64 x5_1 ∧ Aside0 (laws_eqShownS.l0 kq l0 l1 x5_1 = some r) ∧ Aside0 (kq ≤ k) ∧ Aside0 (Below w.heap.size w w'))
  case atStart => exact ⟨(0), (by first | rfl | (simp; done) | (simp [*]; done) | (simp; unfold wrap64; omega)), H', ⟨Nat.le_refl _⟩, ⟨by repeat (first | (with_reducible first | exact HB.out | apply z7q | apply z3q | apply z4q) | exact HB.out)⟩⟩
  case round =>
   clear H'
   try clear c1
   try clear p2
   try clear c3
   try clear c3b0
   try clear c3b1
   try clear c3b2
   obtain ⟨x5_1, rfl, HA, HK1, HB⟩ := hrel
   cases gk with
   | zero => exact absurd HA.out (by simp [laws_eqShownS.l0])
   | succ k1 =>
    have H := HA.out
    clear HA
    simp only [laws_eqShownS.l0] at H
    by_cases c4 : x5_1 < (l0.length : Int)
    ·rw [if_pos c4] at H
     have c4b0 : decide (x5_1 < (l0.length : Int)) = true := decide_eq_true c4
     clear c4
     by_cases c5 : 0 ≤ x5_1
     ·rw [if_pos c5] at H
      have c5b0 : decide (0 ≤ x5_1) = true := decide_eq_true c5
      clear c5
      by_cases c6 : x5_1 < (l1.length : Int)
      ·rw [if_pos c6] at H
       have c6b0 : decide (x5_1 < (l1.length : Int)) = true := decide_eq_true c6
       clear c6
       replace H := Option.bind_eq_some_iff.mp H
       obtain ⟨t216, A70, H⟩ := H
       replace H : (if t216 = true then (laws_eqShownS.l0 k1 l0 l1 (wrap64 (x5_1 + 1))) else (some false)) = some r := H
       have A7 := Aside0.mk A70
       clear A70
       by_cases c8 : t216 = true
       ·subst c8
        have H1 : (laws_eqShownS.l0 k1 l0 l1 (wrap64 (x5_1 + 1))) = some r := by rw [if_pos rfl] at H; exact H
        clear H
        have H := H1
        clear H1
        have H' := Aside0.mk H
        clear H
        try go_wp2
        have n0_ := Aside0.mk (z4q HB.out)
        clear HB
        have HB := n0_
        clear n0_
        have p214 : 0 ≤ (x5_1 : Int) := of_decide_eq_true (by first | (with_reducible assumption) | assumption)
        have q214 : x5_1 < (l0.length : Int) := of_decide_eq_true (by first | (with_reducible assumption) | assumption)
        obtain ⟨ad214, e214, hx214_0, hx214_1, hx214_2, hx214_3, hx214_4, hx214_5, hx214_6, hx214_7⟩ := at_T107 HR0.out x5_1 p214 q214
        have hw214_7 := hx214_7
        have hw214_6 := hx214_6
        have hw214_5 := hx214_5
        have hw214_4 := hx214_4
        have hw214_3 := hx214_3
        have hw214_2 := hx214_2
        have hw214_1 := hx214_1
        have hw214_0 := hx214_0
        cases e214
        replace hx214_0 := (hbc HB.out hx214_0).trans hx214_0
        replace hx214_1 := (hbc HB.out hx214_1).trans hx214_1
        replace hx214_2 := (hbc HB.out hx214_2).trans hx214_2
        replace hx214_3 := (hbc HB.out hx214_3).trans hx214_3
        replace hx214_4 := (hbc HB.out hx214_4).trans hx214_4
        replace hx214_5 := (hbc HB.out hx214_5).trans hx214_5
        replace hx214_6 := (hbc HB.out hx214_6).trans hx214_6
        replace hx214_7 := (hbc HB.out hx214_7).trans hx214_7
        replace p214 := eq_true p214
        replace q214 := eq_true q214
        have p215 : 0 ≤ (x5_1 : Int) := of_decide_eq_true (by first | (with_reducible assumption) | assumption)
        have q215 : x5_1 < (l1.length : Int) := of_decide_eq_true (by first | (with_reducible assumption) | assumption)
        obtain ⟨ad215, e215, hx215_0, hx215_1, hx215_2, hx215_3, hx215_4, hx215_5, hx215_6, hx215_7⟩ := at_T107 HR1.out x5_1 p215 q215
        have hw215_7 := hx215_7
        have hw215_6 := hx215_6
        have hw215_5 := hx215_5
        have hw215_4 := hx215_4
        have hw215_3 := hx215_3
        have hw215_2 := hx215_2
        have hw215_1 := hx215_1
        have hw215_0 := hx215_0
        cases e215
        replace hx215_0 := (hbc HB.out hx215_0).trans hx215_0
        replace hx215_1 := (hbc HB.out hx215_1).trans hx215_1
        replace hx215_2 := (hbc HB.out hx215_2).trans hx215_2
        replace hx215_3 := (hbc HB.out hx215_3).trans hx215_3
        replace hx215_4 := (hbc HB.out hx215_4).trans hx215_4
        replace hx215_5 := (hbc HB.out hx215_5).trans hx215_5
        replace hx215_6 := (hbc HB.out hx215_6).trans hx215_6
        replace hx215_7 := (hbc HB.out hx215_7).trans hx215_7
        replace p215 := eq_true p215
        replace q215 := eq_true q215
        refine start_ (n := 10) (S := fun w' => w'.cell? (ad214.add ((x5_1).toNat * 8)) = some (.int .i64 ((rd_T107 l0 x5_1).f0)) ∧ w'.cell? ⟨(ad214.add ((x5_1).toNat * 8)).block, (ad214.add ((x5_1).toNat * 8)).off + 1, none⟩ = some (.int .i64 ((rd_T107 l0 x5_1).f1)) ∧ w'.cell? ⟨(ad214.add ((x5_1).toNat * 8)).block, (ad214.add ((x5_1).toNat * 8)).off + 2, none⟩ = some (.int .i64 ((rd_T107 l0 x5_1).f2.f0)) ∧ w'.cell? ⟨(ad214.add ((x5_1).toNat * 8)).block, (ad214.add ((x5_1).toNat * 8)).off + 3, none⟩ = some (.bool ((rd_T107 l0 x5_1).f2.f1.f0)) ∧ w'.cell? ⟨(ad214.add ((x5_1).toNat * 8)).block, (ad214.add ((x5_1).toNat * 8)).off + 4, none⟩ = some (.int .i64 ((rd_T107 l0 x5_1).f2.f1.f1)) ∧ w'.cell? ⟨(ad214.add ((x5_1).toNat * 8)).block, (ad214.add ((x5_1).toNat * 8)).off + 5, none⟩ = some (.int .i64 ((rd_T107 l0 x5_1).f2.f1.f2)) ∧ w'.cell? ⟨(ad214.add ((x5_1).toNat * 8)).block, (ad214.add ((x5_1).toNat * 8)).off + 6, none⟩ = some (.string ((rd_T107 l0 x5_1).f2.f2)) ∧ w'.cell? ⟨(ad214.add ((x5_1).toNat * 8)).block, (ad214.add ((x5_1).toNat * 8)).off + 7, none⟩ = some (.bool ((rd_T107 l0 x5_1).f3)) ∧ w'.cell? (ad215.add ((x5_1).toNat * 8)) = some (.int .i64 ((rd_T107 l1 x5_1).f0)) ∧ w'.cell? ⟨(ad215.add ((x5_1).toNat * 8)).block, (ad215.add ((x5_1).toNat * 8)).off + 1, none⟩ = some (.int .i64 ((rd_T107 l1 x5_1).f1)) ∧ w'.cell? ⟨(ad215.add ((x5_1).toNat * 8)).block, (ad215.add ((x5_1).toNat * 8)).off + 2, none⟩ = some (.int .i64 ((rd_T107 l1 x5_1).f2.f0)) ∧ w'.cell? ⟨(ad215.add ((x5_1).toNat * 8)).block, (ad215.add ((x5_1).toNat * 8)).off + 3, none⟩ = some (.bool ((rd_T107 l1 x5_1).f2.f1.f0)) ∧ w'.cell? ⟨(ad215.add ((x5_1).toNat * 8)).block, (ad215.add ((x5_1).toNat * 8)).off + 4, none⟩ = some (.int .i64 ((rd_T107 l1 x5_1).f2.f1.f1)) ∧ w'.cell? ⟨(ad215.add ((x5_1).toNat * 8)).block, (ad215.add ((x5_1).toNat * 8)).off + 5, none⟩ = some (.int .i64 ((rd_T107 l1 x5_1).f2.f1.f2)) ∧ w'.cell? ⟨(ad215.add ((x5_1).toNat * 8)).block, (ad215.add ((x5_1).toNat * 8)).off + 6, none⟩ = some (.string ((rd_T107 l1 x5_1).f2.f2)) ∧ w'.cell? ⟨(ad215.add ((x5_1).toNat * 8)).block, (ad215.add ((x5_1).toNat * 8)).off + 7, none⟩ = some (.bool ((rd_T107 l1 x5_1).f3))) (ds := []) bt6_0 (by kernel_rfl) rfl rfl ⟨(hbt HB.out hw214_0), (hbt HB.out hw214_1), (hbt HB.out hw214_2), (hbt HB.out hw214_3), (hbt HB.out hw214_4), (hbt HB.out hw214_5), (hbt HB.out hw214_6), (hbt HB.out hw214_7), (hbt HB.out hw215_0), (hbt HB.out hw215_1), (hbt HB.out hw215_2), (hbt HB.out hw215_3), (hbt HB.out hw215_4), (hbt HB.out hw215_5), (hbt HB.out hw215_6), (hbt HB.out hw215_7)⟩ (fun hHeld => ?_); refine with_tabW laws_eqShownS.tab6 laws_eqShownS.bits6 (fun HT_ HW_ => ?_)
        generalize wr.drew = w9 at HB hx214_0 hx214_1 hx214_2 hx214_3 hx214_4 hx214_5 hx214_6 hx214_7 hx215_0 hx215_1 hx215_2 hx215_3 hx215_4 hx215_5 hx215_6 hx215_7 hHeld ⊢
        refine pure_ (i := 0) (N := some 17) (v := ?_) (a' := ?_) bt6_1 rfl rfl (z8q HT_.out (by kernel_rfl)) (fun _ _ _ h => h) (Or.inl ⟨by rfl, ?_⟩) ?_ ?_
        rotate_left
        ·intro w'
         go_simp
         with_reducible rfl
        rotate_left
        ·simp only [Act.put, setIfInBounds_toArray, set_cons_zero, set_cons_succ, i64_w, i32_w]
         rfl
        refine pure_ (i := 1) (N := some 18) (v := ?_) (a' := ?_) bt6_2 rfl rfl (z8q HT_.out (by kernel_rfl)) (fun _ _ _ h => h) (Or.inl ⟨by rfl, ?_⟩) ?_ ?_
        rotate_left
        ·intro w'
         go_simp
         with_reducible rfl
        rotate_left
        ·simp only [Act.put, setIfInBounds_toArray, set_cons_zero, set_cons_succ, i64_w, i32_w]
         rfl
        refine pure_ (i := 2) (N := some 19) (v := ?_) (a' := ?_) bt6_3 rfl rfl (z8q HT_.out (by kernel_rfl)) (fun _ _ _ h => h) (Or.inl ⟨by rfl, ?_⟩) ?_ ?_
        rotate_left
        ·intro w'
         go_simp
         with_reducible rfl
        rotate_left
        ·simp only [Act.put, setIfInBounds_toArray, set_cons_zero, set_cons_succ, i64_w, i32_w]
         rfl
        refine pure_ (i := 4) (N := some 21) (v := ?_) (a' := ?_) bt6_4 rfl rfl (z8q HT_.out (by kernel_rfl)) (fun _ _ _ h => h) (Or.inl ⟨by rfl, ?_⟩) ?_ ?_
        rotate_left
        ·intro w'
         go_simp
         with_reducible rfl
        rotate_left
        ·simp only [Act.put, setIfInBounds_toArray, set_cons_zero, set_cons_succ, i64_w, i32_w]
         rfl
        refine pure_ (i := 5) (N := some 22) (v := ?_) (a' := ?_) bt6_5 rfl rfl (z8q HT_.out (by kernel_rfl)) (fun _ _ _ h => h) (Or.inl ⟨by rfl, ?_⟩) ?_ ?_
        rotate_left
        ·intro w'
         go_simp
         with_reducible rfl
        rotate_left
        ·simp only [Act.put, setIfInBounds_toArray, set_cons_zero, set_cons_succ, i64_w, i32_w]
         rfl
        refine pure_ (i := 6) (N := some 23) (v := ?_) (a' := ?_) bt6_6 rfl rfl (z8q HT_.out (by kernel_rfl)) (fun _ _ _ h => h) (Or.inl ⟨by rfl, ?_⟩) ?_ ?_
        rotate_left
        ·intro w'
         go_simp
         with_reducible rfl
        rotate_left
        ·simp only [Act.put, setIfInBounds_toArray, set_cons_zero, set_cons_succ, i64_w, i32_w]
         rfl
        refine take_ (i := 3) (N := some 20) (v := ?_) (a' := ?_) bt6_7 rfl rfl (z19q HT_.out HW_.out (by kernel_rfl)) (fun _ _ _ h => h) (Or.inl ⟨by rfl, ?_⟩) hHeld ?_ ?_
        rotate_left
        ·rintro w' ⟨s0, s1, s2, s3, s4, s5, s6, s7, s8, s9, s10, s11, s12, s13, s14, s15⟩
         go_simp
         with_reducible rfl
        rotate_left
        ·simp only [Act.put, setIfInBounds_toArray, set_cons_zero, set_cons_succ, i64_w, i32_w]
         rfl
        refine take_ (i := 7) (N := some 24) (v := ?_) (a' := ?_) bt6_8 rfl rfl (z19q HT_.out HW_.out (by kernel_rfl)) (fun _ _ _ h => h) (Or.inl ⟨by rfl, ?_⟩) hHeld ?_ ?_
        rotate_left
        ·rintro w' ⟨s0, s1, s2, s3, s4, s5, s6, s7, s8, s9, s10, s11, s12, s13, s14, s15⟩
         go_simp
         with_reducible rfl
        rotate_left
        ·simp only [Act.put, setIfInBounds_toArray, set_cons_zero, set_cons_succ, i64_w, i32_w]
         rfl
        refine one_ (i := 8) (N := some 25) bt6_9 rfl rfl (one_of HT_.out (by kernel_rfl)) (by decide) (fun K hK => ?_)
        refine goes_ Try.func73 (by kernel_rfl) rfl #[.agg #[.int .i64 ((rd_T107 l0 x5_1).f0), .int .i64 ((rd_T107 l0 x5_1).f1), .int .i64 ((rd_T107 l0 x5_1).f2.f0), .bool ((rd_T107 l0 x5_1).f2.f1.f0), .int .i64 ((rd_T107 l0 x5_1).f2.f1.f1), .int .i64 ((rd_T107 l0 x5_1).f2.f1.f2), .string ((rd_T107 l0 x5_1).f2.f2), .bool ((rd_T107 l0 x5_1).f3)], .agg #[.int .i64 ((rd_T107 l1 x5_1).f0), .int .i64 ((rd_T107 l1 x5_1).f1), .int .i64 ((rd_T107 l1 x5_1).f2.f0), .bool ((rd_T107 l1 x5_1).f2.f1.f0), .int .i64 ((rd_T107 l1 x5_1).f2.f1.f1), .int .i64 ((rd_T107 l1 x5_1).f2.f1.f2), .string ((rd_T107 l1 x5_1).f2.f2), .bool ((rd_T107 l1 x5_1).f3)]] (by rfl) rfl rfl (by (try simp only [map_toArray, map_cons, map_nil]); first | done | rfl | (simp only [length_drop, length_take]; rfl)) ?_
        with_reducible refine (laws_eqShown.calls ((rd_T107 l0 x5_1).f0) ((rd_T107 l0 x5_1).f1) ((rd_T107 l0 x5_1).f2.f0) ((rd_T107 l0 x5_1).f2.f1.f0) ((rd_T107 l0 x5_1).f2.f1.f1) ((rd_T107 l0 x5_1).f2.f1.f2) ((rd_T107 l0 x5_1).f2.f2) ((rd_T107 l0 x5_1).f3) ((rd_T107 l1 x5_1).f0) ((rd_T107 l1 x5_1).f1) ((rd_T107 l1 x5_1).f2.f0) ((rd_T107 l1 x5_1).f2.f1.f0) ((rd_T107 l1 x5_1).f2.f1.f1) ((rd_T107 l1 x5_1).f2.f1.f2) ((rd_T107 l1 x5_1).f2.f2) ((rd_T107 l1 x5_1).f3) true _ A7.out).mono ?_
        rintro e w10 ⟨rfl, hb⟩
        refine ⟨_, rfl, ?_⟩
        have n0_ := Aside0.mk (z6q (ibh HB.out) hb)
        clear HB
        have HB := n0_
        clear n0_
        (try clear hb)
        (try clear hb2)
        (try clear hk)
        (try clear hi)
        refine hK.out _ _ ⟨(hbt HB.out hw214_0), (hbt HB.out hw214_1), (hbt HB.out hw214_2), (hbt HB.out hw214_3), (hbt HB.out hw214_4), (hbt HB.out hw214_5), (hbt HB.out hw214_6), (hbt HB.out hw214_7), (hbt HB.out hw215_0), (hbt HB.out hw215_1), (hbt HB.out hw215_2), (hbt HB.out hw215_3), (hbt HB.out hw215_4), (hbt HB.out hw215_5), (hbt HB.out hw215_6), (hbt HB.out hw215_7)⟩ (fun hHeld => ?_)
        clear hK K
        refine norm_ (a' := ?_) ?_ ?_
        rotate_left
        ·show Act.put _ (some 25) _ = _
         simp only [Act.put, setIfInBounds_toArray, set_cons_zero, set_cons_succ, i64_w, i32_w]
         rfl
        refine pure_ (i := 9) (N := some 26) (v := ?_) (a' := ?_) bt6_10 rfl rfl (z8q HT_.out (by kernel_rfl)) (fun _ _ _ h => h) (Or.inl ⟨by rfl, ?_⟩) ?_ ?_
        rotate_left
        ·intro w'
         go_simp
         with_reducible rfl
        rotate_left
        ·simp only [Act.put, setIfInBounds_toArray, set_cons_zero, set_cons_succ, i64_w, i32_w]
         rfl
        refine done_ (done_of HT_.out (by kernel_rfl)) ?_
        try go_wp2
        go_roundg k1
        case measure => have := HK1.out; omega
        case rel => exact ⟨(wrap64 (x5_1 + 1)), (by first | rfl | (simp; done) | (simp [*]; done) | (simp; unfold wrap64; omega)), H', ⟨by have := HK1.out; omega⟩, ⟨by repeat (first | (with_reducible first | exact HB.out | apply z7q | apply z3q | apply z4q) | exact HB.out)⟩⟩
       ·replace c8 := Bool.eq_false_iff.mpr c8
        subst c8
        have H1 : (some false) = some r := by rw [if_neg (show ¬ (false = true) by decide)] at H; exact H
        clear H
        have H := H1
        clear H1
        obtain rfl := Option.some.inj H
        try go_wp2
        have n0_ := Aside0.mk (z4q HB.out)
        clear HB
        have HB := n0_
        clear n0_
        have p214 : 0 ≤ (x5_1 : Int) := of_decide_eq_true (by first | (with_reducible assumption) | assumption)
        have q214 : x5_1 < (l0.length : Int) := of_decide_eq_true (by first | (with_reducible assumption) | assumption)
        obtain ⟨ad214, e214, hx214_0, hx214_1, hx214_2, hx214_3, hx214_4, hx214_5, hx214_6, hx214_7⟩ := at_T107 HR0.out x5_1 p214 q214
        have hw214_7 := hx214_7
        have hw214_6 := hx214_6
        have hw214_5 := hx214_5
        have hw214_4 := hx214_4
        have hw214_3 := hx214_3
        have hw214_2 := hx214_2
        have hw214_1 := hx214_1
        have hw214_0 := hx214_0
        cases e214
        replace hx214_0 := (hbc HB.out hx214_0).trans hx214_0
        replace hx214_1 := (hbc HB.out hx214_1).trans hx214_1
        replace hx214_2 := (hbc HB.out hx214_2).trans hx214_2
        replace hx214_3 := (hbc HB.out hx214_3).trans hx214_3
        replace hx214_4 := (hbc HB.out hx214_4).trans hx214_4
        replace hx214_5 := (hbc HB.out hx214_5).trans hx214_5
        replace hx214_6 := (hbc HB.out hx214_6).trans hx214_6
        replace hx214_7 := (hbc HB.out hx214_7).trans hx214_7
        replace p214 := eq_true p214
        replace q214 := eq_true q214
        have p215 : 0 ≤ (x5_1 : Int) := of_decide_eq_true (by first | (with_reducible assumption) | assumption)
        have q215 : x5_1 < (l1.length : Int) := of_decide_eq_true (by first | (with_reducible assumption) | assumption)
        obtain ⟨ad215, e215, hx215_0, hx215_1, hx215_2, hx215_3, hx215_4, hx215_5, hx215_6, hx215_7⟩ := at_T107 HR1.out x5_1 p215 q215
        have hw215_7 := hx215_7
        have hw215_6 := hx215_6
        have hw215_5 := hx215_5
        have hw215_4 := hx215_4
        have hw215_3 := hx215_3
        have hw215_2 := hx215_2
        have hw215_1 := hx215_1
        have hw215_0 := hx215_0
        cases e215
        replace hx215_0 := (hbc HB.out hx215_0).trans hx215_0
        replace hx215_1 := (hbc HB.out hx215_1).trans hx215_1
        replace hx215_2 := (hbc HB.out hx215_2).trans hx215_2
        replace hx215_3 := (hbc HB.out hx215_3).trans hx215_3
        replace hx215_4 := (hbc HB.out hx215_4).trans hx215_4
        replace hx215_5 := (hbc HB.out hx215_5).trans hx215_5
        replace hx215_6 := (hbc HB.out hx215_6).trans hx215_6
        replace hx215_7 := (hbc HB.out hx215_7).trans hx215_7
        replace p215 := eq_true p215
        replace q215 := eq_true q215
        refine start_ (n := 10) (S := fun w' => w'.cell? (ad214.add ((x5_1).toNat * 8)) = some (.int .i64 ((rd_T107 l0 x5_1).f0)) ∧ w'.cell? ⟨(ad214.add ((x5_1).toNat * 8)).block, (ad214.add ((x5_1).toNat * 8)).off + 1, none⟩ = some (.int .i64 ((rd_T107 l0 x5_1).f1)) ∧ w'.cell? ⟨(ad214.add ((x5_1).toNat * 8)).block, (ad214.add ((x5_1).toNat * 8)).off + 2, none⟩ = some (.int .i64 ((rd_T107 l0 x5_1).f2.f0)) ∧ w'.cell? ⟨(ad214.add ((x5_1).toNat * 8)).block, (ad214.add ((x5_1).toNat * 8)).off + 3, none⟩ = some (.bool ((rd_T107 l0 x5_1).f2.f1.f0)) ∧ w'.cell? ⟨(ad214.add ((x5_1).toNat * 8)).block, (ad214.add ((x5_1).toNat * 8)).off + 4, none⟩ = some (.int .i64 ((rd_T107 l0 x5_1).f2.f1.f1)) ∧ w'.cell? ⟨(ad214.add ((x5_1).toNat * 8)).block, (ad214.add ((x5_1).toNat * 8)).off + 5, none⟩ = some (.int .i64 ((rd_T107 l0 x5_1).f2.f1.f2)) ∧ w'.cell? ⟨(ad214.add ((x5_1).toNat * 8)).block, (ad214.add ((x5_1).toNat * 8)).off + 6, none⟩ = some (.string ((rd_T107 l0 x5_1).f2.f2)) ∧ w'.cell? ⟨(ad214.add ((x5_1).toNat * 8)).block, (ad214.add ((x5_1).toNat * 8)).off + 7, none⟩ = some (.bool ((rd_T107 l0 x5_1).f3)) ∧ w'.cell? (ad215.add ((x5_1).toNat * 8)) = some (.int .i64 ((rd_T107 l1 x5_1).f0)) ∧ w'.cell? ⟨(ad215.add ((x5_1).toNat * 8)).block, (ad215.add ((x5_1).toNat * 8)).off + 1, none⟩ = some (.int .i64 ((rd_T107 l1 x5_1).f1)) ∧ w'.cell? ⟨(ad215.add ((x5_1).toNat * 8)).block, (ad215.add ((x5_1).toNat * 8)).off + 2, none⟩ = some (.int .i64 ((rd_T107 l1 x5_1).f2.f0)) ∧ w'.cell? ⟨(ad215.add ((x5_1).toNat * 8)).block, (ad215.add ((x5_1).toNat * 8)).off + 3, none⟩ = some (.bool ((rd_T107 l1 x5_1).f2.f1.f0)) ∧ w'.cell? ⟨(ad215.add ((x5_1).toNat * 8)).block, (ad215.add ((x5_1).toNat * 8)).off + 4, none⟩ = some (.int .i64 ((rd_T107 l1 x5_1).f2.f1.f1)) ∧ w'.cell? ⟨(ad215.add ((x5_1).toNat * 8)).block, (ad215.add ((x5_1).toNat * 8)).off + 5, none⟩ = some (.int .i64 ((rd_T107 l1 x5_1).f2.f1.f2)) ∧ w'.cell? ⟨(ad215.add ((x5_1).toNat * 8)).block, (ad215.add ((x5_1).toNat * 8)).off + 6, none⟩ = some (.string ((rd_T107 l1 x5_1).f2.f2)) ∧ w'.cell? ⟨(ad215.add ((x5_1).toNat * 8)).block, (ad215.add ((x5_1).toNat * 8)).off + 7, none⟩ = some (.bool ((rd_T107 l1 x5_1).f3))) (ds := []) bt6_0 (by kernel_rfl) rfl rfl ⟨(hbt HB.out hw214_0), (hbt HB.out hw214_1), (hbt HB.out hw214_2), (hbt HB.out hw214_3), (hbt HB.out hw214_4), (hbt HB.out hw214_5), (hbt HB.out hw214_6), (hbt HB.out hw214_7), (hbt HB.out hw215_0), (hbt HB.out hw215_1), (hbt HB.out hw215_2), (hbt HB.out hw215_3), (hbt HB.out hw215_4), (hbt HB.out hw215_5), (hbt HB.out hw215_6), (hbt HB.out hw215_7)⟩ (fun hHeld => ?_); refine with_tabW laws_eqShownS.tab6 laws_eqShownS.bits6 (fun HT_ HW_ => ?_)
        generalize wr.drew = w11 at HB hx214_0 hx214_1 hx214_2 hx214_3 hx214_4 hx214_5 hx214_6 hx214_7 hx215_0 hx215_1 hx215_2 hx215_3 hx215_4 hx215_5 hx215_6 hx215_7 hHeld ⊢
        refine pure_ (i := 0) (N := some 17) (v := ?_) (a' := ?_) bt6_1 rfl rfl (z8q HT_.out (by kernel_rfl)) (fun _ _ _ h => h) (Or.inl ⟨by rfl, ?_⟩) ?_ ?_
        rotate_left
        ·intro w'
         go_simp
         with_reducible rfl
        rotate_left
        ·simp only [Act.put, setIfInBounds_toArray, set_cons_zero, set_cons_succ, i64_w, i32_w]
         rfl
        refine pure_ (i := 1) (N := some 18) (v := ?_) (a' := ?_) bt6_2 rfl rfl (z8q HT_.out (by kernel_rfl)) (fun _ _ _ h => h) (Or.inl ⟨by rfl, ?_⟩) ?_ ?_
        rotate_left
        ·intro w'
         go_simp
         with_reducible rfl
        rotate_left
        ·simp only [Act.put, setIfInBounds_toArray, set_cons_zero, set_cons_succ, i64_w, i32_w]
         rfl
        refine pure_ (i := 2) (N := some 19) (v := ?_) (a' := ?_) bt6_3 rfl rfl (z8q HT_.out (by kernel_rfl)) (fun _ _ _ h => h) (Or.inl ⟨by rfl, ?_⟩) ?_ ?_
        rotate_left
        ·intro w'
         go_simp
         with_reducible rfl
        rotate_left
        ·simp only [Act.put, setIfInBounds_toArray, set_cons_zero, set_cons_succ, i64_w, i32_w]
         rfl
        refine pure_ (i := 4) (N := some 21) (v := ?_) (a' := ?_) bt6_4 rfl rfl (z8q HT_.out (by kernel_rfl)) (fun _ _ _ h => h) (Or.inl ⟨by rfl, ?_⟩) ?_ ?_
        rotate_left
        ·intro w'
         go_simp
         with_reducible rfl
        rotate_left
        ·simp only [Act.put, setIfInBounds_toArray, set_cons_zero, set_cons_succ, i64_w, i32_w]
         rfl
        refine pure_ (i := 5) (N := some 22) (v := ?_) (a' := ?_) bt6_5 rfl rfl (z8q HT_.out (by kernel_rfl)) (fun _ _ _ h => h) (Or.inl ⟨by rfl, ?_⟩) ?_ ?_
        rotate_left
        ·intro w'
         go_simp
         with_reducible rfl
        rotate_left
        ·simp only [Act.put, setIfInBounds_toArray, set_cons_zero, set_cons_succ, i64_w, i32_w]
         rfl
        refine pure_ (i := 6) (N := some 23) (v := ?_) (a' := ?_) bt6_6 rfl rfl (z8q HT_.out (by kernel_rfl)) (fun _ _ _ h => h) (Or.inl ⟨by rfl, ?_⟩) ?_ ?_
        rotate_left
        ·intro w'
         go_simp
         with_reducible rfl
        rotate_left
        ·simp only [Act.put, setIfInBounds_toArray, set_cons_zero, set_cons_succ, i64_w, i32_w]
         rfl
        refine take_ (i := 3) (N := some 20) (v := ?_) (a' := ?_) bt6_7 rfl rfl (z19q HT_.out HW_.out (by kernel_rfl)) (fun _ _ _ h => h) (Or.inl ⟨by rfl, ?_⟩) hHeld ?_ ?_
        rotate_left
        ·rintro w' ⟨s0, s1, s2, s3, s4, s5, s6, s7, s8, s9, s10, s11, s12, s13, s14, s15⟩
         go_simp
         with_reducible rfl
        rotate_left
        ·simp only [Act.put, setIfInBounds_toArray, set_cons_zero, set_cons_succ, i64_w, i32_w]
         rfl
        refine take_ (i := 7) (N := some 24) (v := ?_) (a' := ?_) bt6_8 rfl rfl (z19q HT_.out HW_.out (by kernel_rfl)) (fun _ _ _ h => h) (Or.inl ⟨by rfl, ?_⟩) hHeld ?_ ?_
        rotate_left
        ·rintro w' ⟨s0, s1, s2, s3, s4, s5, s6, s7, s8, s9, s10, s11, s12, s13, s14, s15⟩
         go_simp
         with_reducible rfl
        rotate_left
        ·simp only [Act.put, setIfInBounds_toArray, set_cons_zero, set_cons_succ, i64_w, i32_w]
         rfl
        refine one_ (i := 8) (N := some 25) bt6_9 rfl rfl (one_of HT_.out (by kernel_rfl)) (by decide) (fun K hK => ?_)
        refine goes_ Try.func73 (by kernel_rfl) rfl #[.agg #[.int .i64 ((rd_T107 l0 x5_1).f0), .int .i64 ((rd_T107 l0 x5_1).f1), .int .i64 ((rd_T107 l0 x5_1).f2.f0), .bool ((rd_T107 l0 x5_1).f2.f1.f0), .int .i64 ((rd_T107 l0 x5_1).f2.f1.f1), .int .i64 ((rd_T107 l0 x5_1).f2.f1.f2), .string ((rd_T107 l0 x5_1).f2.f2), .bool ((rd_T107 l0 x5_1).f3)], .agg #[.int .i64 ((rd_T107 l1 x5_1).f0), .int .i64 ((rd_T107 l1 x5_1).f1), .int .i64 ((rd_T107 l1 x5_1).f2.f0), .bool ((rd_T107 l1 x5_1).f2.f1.f0), .int .i64 ((rd_T107 l1 x5_1).f2.f1.f1), .int .i64 ((rd_T107 l1 x5_1).f2.f1.f2), .string ((rd_T107 l1 x5_1).f2.f2), .bool ((rd_T107 l1 x5_1).f3)]] (by rfl) rfl rfl (by (try simp only [map_toArray, map_cons, map_nil]); first | done | rfl | (simp only [length_drop, length_take]; rfl)) ?_
        with_reducible refine (laws_eqShown.calls ((rd_T107 l0 x5_1).f0) ((rd_T107 l0 x5_1).f1) ((rd_T107 l0 x5_1).f2.f0) ((rd_T107 l0 x5_1).f2.f1.f0) ((rd_T107 l0 x5_1).f2.f1.f1) ((rd_T107 l0 x5_1).f2.f1.f2) ((rd_T107 l0 x5_1).f2.f2) ((rd_T107 l0 x5_1).f3) ((rd_T107 l1 x5_1).f0) ((rd_T107 l1 x5_1).f1) ((rd_T107 l1 x5_1).f2.f0) ((rd_T107 l1 x5_1).f2.f1.f0) ((rd_T107 l1 x5_1).f2.f1.f1) ((rd_T107 l1 x5_1).f2.f1.f2) ((rd_T107 l1 x5_1).f2.f2) ((rd_T107 l1 x5_1).f3) false _ A7.out).mono ?_
        rintro e w12 ⟨rfl, hb⟩
        refine ⟨_, rfl, ?_⟩
        have n0_ := Aside0.mk (z6q (ibh HB.out) hb)
        clear HB
        have HB := n0_
        clear n0_
        (try clear hb)
        (try clear hb2)
        (try clear hk)
        (try clear hi)
        refine hK.out _ _ ⟨(hbt HB.out hw214_0), (hbt HB.out hw214_1), (hbt HB.out hw214_2), (hbt HB.out hw214_3), (hbt HB.out hw214_4), (hbt HB.out hw214_5), (hbt HB.out hw214_6), (hbt HB.out hw214_7), (hbt HB.out hw215_0), (hbt HB.out hw215_1), (hbt HB.out hw215_2), (hbt HB.out hw215_3), (hbt HB.out hw215_4), (hbt HB.out hw215_5), (hbt HB.out hw215_6), (hbt HB.out hw215_7)⟩ (fun hHeld => ?_)
        clear hK K
        refine norm_ (a' := ?_) ?_ ?_
        rotate_left
        ·show Act.put _ (some 25) _ = _
         simp only [Act.put, setIfInBounds_toArray, set_cons_zero, set_cons_succ, i64_w, i32_w]
         rfl
        refine pure_ (i := 9) (N := some 26) (v := ?_) (a' := ?_) bt6_10 rfl rfl (z8q HT_.out (by kernel_rfl)) (fun _ _ _ h => h) (Or.inl ⟨by rfl, ?_⟩) ?_ ?_
        rotate_left
        ·intro w'
         go_simp
         with_reducible rfl
        rotate_left
        ·simp only [Act.put, setIfInBounds_toArray, set_cons_zero, set_cons_succ, i64_w, i32_w]
         rfl
        refine done_ (done_of HT_.out (by kernel_rfl)) ?_
        try go_wp2
        go_ret
        exact ⟨by first | rfl | (simp [errW_none, errW_some] <;> rfl) | (simp [*, errW_none, errW_some] <;> rfl), by repeat (first | (with_reducible first | exact HB.out | apply z7q | apply z3q | apply z4q) | exact HB.out)⟩
      ·rw [if_neg c6] at H
       exact absurd H (by simp)
     ·rw [if_neg c5] at H
      exact absurd H (by simp)
    ·rw [if_neg c4] at H
     have c4b0 : decide (x5_1 < (l0.length : Int)) = false := decide_eq_false c4
     clear c4
     obtain rfl := Option.some.inj H
     go_wp2
     go_ret
     exact ⟨by first | rfl | (simp [errW_none, errW_some] <;> rfl) | (simp [*, errW_none, errW_some] <;> rfl), by repeat (first | (with_reducible first | exact HB.out | apply z7q | apply z3q | apply z4q) | exact HB.out)⟩
 ·rw [if_neg c3] at H
  have c3b0 : ((l0.length : Int) == (l1.length : Int)) = false := beq_eq_false_iff_ne.mpr c3
  have c3b1 : ((l0.length : Int) != (l1.length : Int)) = true := bne_iff_ne.mpr c3
  have c3b2 : (l0.length == l1.length) = false := by first | simpa using c3 | (simp at c3 ⊢; omega)
  obtain rfl := Option.some.inj H
  go_enter Try.func35, Try.ntmps35
  go_wp2
  go_ret
  exact ⟨by first | rfl | (simp [errW_none, errW_some] <;> rfl) | (simp [*, errW_none, errW_some] <;> rfl), by repeat (first | (with_reducible first | exact HB.out | apply z7q | apply z3q | apply z4q) | exact HB.out)⟩



/-! ### laws_markText: function 74 -/

def laws_markText.l0 : Nat → Int → ByteArray → Option (ByteArray)
 | 0, _, _ => none
 | k + 1, x0, x3 => if x0 > 0 then ((some (([(wrap64 (48 + (Int.tmod x0 10))) % 256] : List Int) : List Int)).bind fun y217 => (if (strOfNums y217).size + x3.size ≤ 9223372036854775807 then (laws_markText.l0 k (wrap64 (Int.tdiv x0 10)) ((strOfNums y217) ++ x3)) else (none))) else (if 1 + x3.size ≤ 9223372036854775807 then (some ((⟨#[109]⟩ : ByteArray) ++ x3)) else (none))

def laws_markText.f (k : Nat) (a0 : Int) : Option (ByteArray) := if a0 ≤ 0 then (some (⟨#[109, 48]⟩ : ByteArray)) else (laws_markText.l0 k a0 (⟨#[]⟩ : ByteArray))

theorem laws_markText.mono_l : ∀ k, (∀ y0 y1, LeO (laws_markText.l0 k y0 y1) (laws_markText.l0 (k + 1) y0 y1))
 | 0 => fun _ _ r h => by simp [laws_markText.l0] at h
 | k + 1 => by
  have ih0 := laws_markText.mono_l k
  ·intro y0 y1
   unfold laws_markText.l0
   repeat' first
   | (with_reducible exact ih0 _ _)
   | (with_reducible exact LeO.refl _)
   | (with_reducible exact LeO.none _)
   | (with_reducible refine LeO.ite ?_ ?_)
   | (with_reducible refine LeO.bind ?_ (fun _ => ?_))
   | exact ih0 _ _
   | exact LeO.none _
   | refine LeO.ite ?_ ?_
   | refine LeO.bind ?_ (fun _ => ?_)

theorem laws_markText.mono : ∀ a0 k, LeO (laws_markText.f k a0) (laws_markText.f (k + 1) a0) := by
 intro a0 k
 have ih0 := laws_markText.mono_l k
 unfold laws_markText.f
 repeat' first
   | (with_reducible exact ih0 _ _)
   | (with_reducible exact LeO.refl _)
   | (with_reducible exact LeO.none _)
   | (with_reducible refine LeO.ite ?_ ?_)
   | (with_reducible refine LeO.bind ?_ (fun _ => ?_))
   | exact ih0 _ _
   | exact LeO.none _
   | refine LeO.ite ?_ ?_
   | refine LeO.bind ?_ (fun _ => ?_)

set_option maxHeartbeats 100000000 in
set_option maxRecDepth 100000 in
theorem laws_markText.calls (k : Nat) (a0 : Int) (r : ByteArray) (w : World) (h : laws_markText.f k a0 = some r) :
  Calls Try.prog 74 #[.int .i64 a0] w fun e w' => e = .returned (.string r) ∧ Below w.heap.size w w' := by
 have HB := Aside0.mk (Below.refl w.heap.size w)
 have H : (if a0 ≤ 0 then (some (⟨#[109, 48]⟩ : ByteArray)) else (laws_markText.l0 k a0 (⟨#[]⟩ : ByteArray))) = some r := h
 clear h
 by_cases c2 : a0 ≤ 0
 ·rw [if_pos c2] at H
  have c2b0 : decide (a0 ≤ 0) = true := decide_eq_true c2
  clear c2
  obtain rfl := Option.some.inj H
  go_enter Try.func74, Try.ntmps74
  go_wp2
  go_ret
  exact ⟨by first | rfl | (simp [errW_none, errW_some] <;> rfl) | (simp [*, errW_none, errW_some] <;> rfl), by repeat (first | (with_reducible first | exact HB.out | apply z7q | apply z3q | apply z4q) | exact HB.out)⟩
 ·rw [if_neg c2] at H
  have c2b0 : decide (a0 ≤ 0) = false := decide_eq_false c2
  clear c2
  have H' := Aside0.mk H
  clear H
  go_enter Try.func74, Try.ntmps74
  go_wp2
  go_loopg [0, 3] k (fun kq v0 v3 w' => ∃ (x0_1 : Int) (x3_1 : ByteArray), v0 = .int .i64 x0_1 ∧ v3 = .string x3_1 ∧ Aside0 (laws_markText.l0 kq x0_1 x3_1 = some r) ∧ Aside0 (kq ≤ k) ∧ Aside0 (Below w.heap.size w w'))
  case atStart => exact ⟨(a0), ((⟨#[]⟩ : ByteArray)), (by first | rfl | (simp; done) | (simp [*]; done) | (simp; unfold wrap64; omega)), (by first | rfl | (simp; done) | (simp [*]; done) | (simp; unfold wrap64; omega)), H', ⟨Nat.le_refl _⟩, ⟨by repeat (first | (with_reducible first | exact HB.out | apply z7q | apply z3q | apply z4q) | exact HB.out)⟩⟩
  case round =>
   clear H'
   try clear c2
   try clear c2b0
   try clear p2
   obtain ⟨x0_1, x3_1, rfl, rfl, HA, HK1, HB⟩ := hrel
   cases gk with
   | zero => exact absurd HA.out (by simp [laws_markText.l0])
   | succ k1 =>
    have H := HA.out
    clear HA
    simp only [laws_markText.l0] at H
    by_cases c3 : x0_1 > 0
    ·rw [if_pos c3] at H
     have c3b0 : decide (0 < x0_1) = true := decide_eq_true c3
     clear c3
     obtain ⟨y217, hy217⟩ : ∃ y_ : List Int, y_ = (([(wrap64 (48 + (Int.tmod x0_1 10))) % 256] : List Int)) := ⟨_, rfl⟩
     replace H : (if (strOfNums y217).size + x3_1.size ≤ 9223372036854775807 then (laws_markText.l0 k1 (wrap64 (Int.tdiv x0_1 10)) ((strOfNums y217) ++ x3_1)) else (none)) = some r := by first | (rw [hy217]; with_reducible exact H) | (have H2_ := (Option.bind_some _ _).symm.trans H; rw [hy217]; with_reducible exact H2_) | (have H2_ := (Option.bind_some _ _).symm.trans H; with_reducible exact H2_) | with_reducible exact H | (rw [hy217]; exact H) | exact H
     have Ny217 := Aside0.mk hy217
     clear hy217
     by_cases c4 : (strOfNums y217).size + x3_1.size ≤ 9223372036854775807
     ·rw [if_pos c4] at H
      have c4b0 := eq_true c4
      have c4b1 : decide ((strOfNums y217).size + x3_1.size ≤ 9223372036854775807) = true := decide_eq_true c4
      try have c4b2 : (9223372036854775807 < (strOfNums y217).size + x3_1.size) = False := eq_false (Nat.not_lt.2 c4)
      have H' := Aside0.mk H
      clear H
      go_wp2_with (first | ((with_reducible refine z17q (N := 12) rfl ?_); refine Kd.R_lit (Kd.int .u8) _ 5 ?hg (N := 12) ?hd (xs := ([(wrap64 (48 + (Int.tmod x0_1 10))) % 256] : List Int)) (inner := [.int .u8 ((wrap64 (48 + (Int.tmod x0_1 10))) % 256)]) (ok := fun _ => True) (okp := fun _ => True) ?hr ?hp (fun _ hk => hk) trivial (Below.refl _ _) (Nat.le_refl _) (by simp) ?_; (case hd => rfl); (case hg => rfl); (case hr => first | (go_simp; done) | (go_simp; rfl)); (case hp => exact (Reps.one (show Kd.M (Kd.int .u8) _ _ _ ((wrap64 (48 + (Int.tmod x0_1 10))) % 256) [.int .u8 ((wrap64 (48 + (Int.tmod x0_1 10))) % 256)] from rfl) (Reps.none _ _))); intro v218 w5 ho6 hb hg_ hnew_; clear hg_ hnew_; (first | rw [← Ny217.out] at ho6 | (simp only [Int.reduceToNat] at ho6; rw [← Ny217.out] at ho6)); have n0_ := Aside0.mk (Kd.R_lower ho6 (z5q (ibh HB.out))); have n1_ := Aside0.mk (z6q (ibh HB.out) hb); clear HB; have HO219 := n0_; have HB := n1_; clear n0_ n1_; clear hb ho6; have hcv7 := own_string (P := Try.prog) Try.underlying22 Try.underlying5 Try.underlying9 (Kd.own_of_R HO219.out)))
      go_roundg k1
      case measure => have := HK1.out; omega
      case rel => exact ⟨(wrap64 (Int.tdiv x0_1 10)), ((strOfNums y217) ++ x3_1), (by first | rfl | (simp; done) | (simp [*]; done) | (simp; unfold wrap64; omega)), (by first | rfl | (simp; done) | (simp [*]; done) | (simp; unfold wrap64; omega)), H', ⟨by have := HK1.out; omega⟩, ⟨by repeat (first | (with_reducible first | exact HB.out | apply z7q | apply z3q | apply z4q) | exact HB.out)⟩⟩
     ·rw [if_neg c4] at H
      exact absurd H (by simp)
    ·rw [if_neg c3] at H
     have c3b0 : decide (0 < x0_1) = false := decide_eq_false c3
     clear c3
     by_cases c8 : 1 + x3_1.size ≤ 9223372036854775807
     ·rw [if_pos c8] at H
      have c8b0 := eq_true c8
      have c8b1 : decide (1 + x3_1.size ≤ 9223372036854775807) = true := decide_eq_true c8
      try have c8b2 : (9223372036854775807 < 1 + x3_1.size) = False := eq_false (Nat.not_lt.2 c8)
      obtain rfl := Option.some.inj H
      go_wp2
      go_ret
      exact ⟨by first | rfl | (simp [errW_none, errW_some] <;> rfl) | (simp [*, errW_none, errW_some] <;> rfl), by repeat (first | (with_reducible first | exact HB.out | apply z7q | apply z3q | apply z4q) | exact HB.out)⟩
     ·rw [if_neg c8] at H
      exact absurd H (by simp)



/-! ### laws_markShownS: function 36 -/

def laws_markShownS.l0 : Nat → List (S107) → Int → Int → Option (Int × (List (S107)))
 | 0, _, _, _ => none
 | k + 1, x0, x1, x5 => if x5 < (x0.length : Int) then (if 0 ≤ x5 then ((some (x0.set (x5 : Int).toNat (⟨x1, (rd_T107 x0 x5).f1, (⟨(rd_T107 x0 x5).f2.f0, (⟨(rd_T107 x0 x5).f2.f1.f0, (rd_T107 x0 x5).f2.f1.f1, (rd_T107 x0 x5).f2.f1.f2⟩ : S103), (rd_T107 x0 x5).f2.f2⟩ : S105), (rd_T107 x0 x5).f3⟩ : S107) : List (S107))).bind fun y220 => ((some (y220.set (x5 : Int).toNat (⟨(rd_T107 y220 x5).f0, wrap64 (x1 + 1), (⟨(rd_T107 y220 x5).f2.f0, (⟨(rd_T107 y220 x5).f2.f1.f0, (rd_T107 y220 x5).f2.f1.f1, (rd_T107 y220 x5).f2.f1.f2⟩ : S103), (rd_T107 y220 x5).f2.f2⟩ : S105), (rd_T107 y220 x5).f3⟩ : S107) : List (S107))).bind fun y221 => ((some (y221.set (x5 : Int).toNat (⟨(rd_T107 y221 x5).f0, (rd_T107 y221 x5).f1, (⟨wrap64 ((wrap64 (x1 + 1)) + 1), (⟨(rd_T107 y221 x5).f2.f1.f0, (rd_T107 y221 x5).f2.f1.f1, (rd_T107 y221 x5).f2.f1.f2⟩ : S103), (rd_T107 y221 x5).f2.f2⟩ : S105), (rd_T107 y221 x5).f3⟩ : S107) : List (S107))).bind fun y222 => ((some (y222.set (x5 : Int).toNat (⟨(rd_T107 y222 x5).f0, (rd_T107 y222 x5).f1, (⟨(rd_T107 y222 x5).f2.f0, (⟨((Int.tmod (wrap64 ((wrap64 ((wrap64 (x1 + 1)) + 1)) + 1)) 3) == 0), (rd_T107 y222 x5).f2.f1.f1, (rd_T107 y222 x5).f2.f1.f2⟩ : S103), (rd_T107 y222 x5).f2.f2⟩ : S105), (rd_T107 y222 x5).f3⟩ : S107) : List (S107))).bind fun y223 => ((some (y223.set (x5 : Int).toNat (⟨(rd_T107 y223 x5).f0, (rd_T107 y223 x5).f1, (⟨(rd_T107 y223 x5).f2.f0, (⟨(rd_T107 y223 x5).f2.f1.f0, wrap64 ((wrap64 ((wrap64 ((wrap64 (x1 + 1)) + 1)) + 1)) + 1), (rd_T107 y223 x5).f2.f1.f2⟩ : S103), (rd_T107 y223 x5).f2.f2⟩ : S105), (rd_T107 y223 x5).f3⟩ : S107) : List (S107))).bind fun y224 => ((some (y224.set (x5 : Int).toNat (⟨(rd_T107 y224 x5).f0, (rd_T107 y224 x5).f1, (⟨(rd_T107 y224 x5).f2.f0, (⟨(rd_T107 y224 x5).f2.f1.f0, (rd_T107 y224 x5).f2.f1.f1, wrap64 ((wrap64 ((wrap64 ((wrap64 ((wrap64 (x1 + 1)) + 1)) + 1)) + 1)) + 1)⟩ : S103), (rd_T107 y224 x5).f2.f2⟩ : S105), (rd_T107 y224 x5).f3⟩ : S107) : List (S107))).bind fun y225 => ((laws_markText.f k (wrap64 ((wrap64 ((wrap64 ((wrap64 ((wrap64 ((wrap64 (x1 + 1)) + 1)) + 1)) + 1)) + 1)) + 1))).bind fun t226 => ((some (y225.set (x5 : Int).toNat (⟨(rd_T107 y225 x5).f0, (rd_T107 y225 x5).f1, (⟨(rd_T107 y225 x5).f2.f0, (⟨(rd_T107 y225 x5).f2.f1.f0, (rd_T107 y225 x5).f2.f1.f1, (rd_T107 y225 x5).f2.f1.f2⟩ : S103), t226⟩ : S105), (rd_T107 y225 x5).f3⟩ : S107) : List (S107))).bind fun y227 => (laws_markShownS.l0 k (y227.set (x5 : Int).toNat (⟨(rd_T107 y227 x5).f0, (rd_T107 y227 x5).f1, (⟨(rd_T107 y227 x5).f2.f0, (⟨(rd_T107 y227 x5).f2.f1.f0, (rd_T107 y227 x5).f2.f1.f1, (rd_T107 y227 x5).f2.f1.f2⟩ : S103), (rd_T107 y227 x5).f2.f2⟩ : S105), ((Int.tmod (wrap64 ((wrap64 ((wrap64 ((wrap64 ((wrap64 ((wrap64 ((wrap64 (x1 + 1)) + 1)) + 1)) + 1)) + 1)) + 1)) + 1)) 3) == 0)⟩ : S107)) (wrap64 ((wrap64 ((wrap64 ((wrap64 ((wrap64 ((wrap64 ((wrap64 ((wrap64 (x1 + 1)) + 1)) + 1)) + 1)) + 1)) + 1)) + 1)) + 1)) (wrap64 (x5 + 1))))))))))) else (none)) else (some (x1, x0))

def laws_markShownS.f (k : Nat) (l0 : List (S107)) (a1 : Int) : Option (Int × (List (S107))) := laws_markShownS.l0 k l0 a1 0

theorem laws_markShownS.mono_l : ∀ k, (∀ y0 y1 y2, LeO (laws_markShownS.l0 k y0 y1 y2) (laws_markShownS.l0 (k + 1) y0 y1 y2))
 | 0 => fun _ _ _ r h => by simp [laws_markShownS.l0] at h
 | k + 1 => by
  have ih0 := laws_markShownS.mono_l k
  ·intro y0 y1 y2
   unfold laws_markShownS.l0
   repeat' first
   | (with_reducible exact ih0 _ _ _)
   | (with_reducible exact laws_markText.mono _ _)
   | (with_reducible exact LeO.refl _)
   | (with_reducible exact LeO.none _)
   | (with_reducible refine LeO.ite ?_ ?_)
   | (with_reducible refine LeO.bind ?_ (fun _ => ?_))
   | exact ih0 _ _ _
   | exact laws_markText.mono _ _
   | exact LeO.none _
   | refine LeO.ite ?_ ?_
   | refine LeO.bind ?_ (fun _ => ?_)

theorem laws_markShownS.mono : ∀ a0 a1 k, LeO (laws_markShownS.f k a0 a1) (laws_markShownS.f (k + 1) a0 a1) := by
 intro a0 a1 k
 have ih0 := laws_markShownS.mono_l k
 unfold laws_markShownS.f
 repeat' first
   | (with_reducible exact ih0 _ _ _)
   | (with_reducible exact laws_markText.mono _ _)
   | (with_reducible exact LeO.refl _)
   | (with_reducible exact LeO.none _)
   | (with_reducible refine LeO.ite ?_ ?_)
   | (with_reducible refine LeO.bind ?_ (fun _ => ?_))
   | exact ih0 _ _ _
   | exact laws_markText.mono _ _
   | exact LeO.none _
   | refine LeO.ite ?_ ?_
   | refine LeO.bind ?_ (fun _ => ?_)

end Go.Proofs.Ytojfkjggpdlngaa.PFnExactDiffer
