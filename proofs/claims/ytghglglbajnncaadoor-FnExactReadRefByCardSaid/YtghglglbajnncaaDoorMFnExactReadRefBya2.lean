/- Functions of the program as Lean functions, and proofs that the Go code comes to their answers: for the law FnExactReadRefBy; made out of the print by a program of mine (doorprint.py), with walks of my own in the place of some functions. No conditions but each theorem's own. -/
import Derived.Test.YtghglglbajnncaaDoorMFnExactReadRefBya0
import Derived.Test.YtghglglbajnncaaDoorMFnExactReadRefBya1
namespace Go.Proofs.YtghglglbajnncaaDoor.PFnExactReadRefBy
open Go.RowKit Go.Proofs.YtghglglbajnncaaDoorW.PrintWords Go.Proofs.YtghglglbajnncaaDoorW.PrintLast Go.Proofs.YtghglglbajnncaaDoorW.PrintMore
attribute [local go_sem] max2_int min2_int max_two min_two max_three min_three max_four min_four   -- for this text's walks alone
set_option linter.unusedVariables false
set_option linter.unusedSimpArgs false

/-! ### spec_l3ReadBy: function 32 -/
mutual
def spec_l3ReadBy.j0 : Nat → ByteArray → Int → Int → Bool → Option (Int × Bool × Int)
  | 0, _, _, _, _ => none
  | k + 1, x0, x1, x2, x22 => if x22 = true then (if (wrap64 (x1 + 1)) < (x0.size : Int) then (if 0 ≤ (wrap64 (x1 + 1)) then (spec_l3ReadBy.j1 k x0 (wrap64 (x1 + 1)) x2 1 ((bt x0 (wrap64 (x1 + 1))) == 45)) else (none)) else (spec_l3ReadBy.j1 k x0 (wrap64 (x1 + 1)) x2 1 false)) else (spec_l3ReadBy.l1 k x0 x1 x2 x1)
def spec_l3ReadBy.j1 : Nat → ByteArray → Int → Int → Int → Bool → Option (Int × Bool × Int)
  | 0, _, _, _, _, _ => none
  | k + 1, x0, x1, x2, x9, x34 => if x34 = true then (spec_l3ReadBy.j2 k x0 (wrap64 (x1 + 1)) x2 (-1)) else (spec_l3ReadBy.j2 k x0 x1 x2 x9)
def spec_l3ReadBy.j2 : Nat → ByteArray → Int → Int → Int → Option (Int × Bool × Int)
  | 0, _, _, _, _ => none
  | k + 1, x0, x1, x2, x9 => spec_l3ReadBy.l0 k x0 x1 x2 x9 x1
def spec_l3ReadBy.l0 : Nat → ByteArray → Int → Int → Int → Int → Option (Int × Bool × Int)
  | 0, _, _, _, _, _ => none
  | k + 1, x0, x1, x2, x9, x10 => if x1 < (x0.size : Int) then (if 0 ≤ x1 then ((spec_l1Digit.f (bt x0 x1)).bind fun t104 => (if t104 = true then (spec_l3ReadBy.l0 k x0 (wrap64 (x1 + 1)) x2 x9 x10) else (if 0 ≤ x10 then (if x10 ≤ x1 then (if x1 ≤ (x0.size : Int) then ((spec_l2Number.f k (x0.extract (x10 : Int).toNat (x1 : Int).toNat)).bind fun t105 => (if x1 ≥ (x0.size : Int) then (some (0, false, (x0.size : Int))) else (if (bt x0 x1) = 93 then (if t105 < 0 then (some (0, false, (x0.size : Int))) else (some (wrap64 (x2 + (wrap64 (x9 * t105))), false, wrap64 (x1 + 1)))) else (some (0, false, (x0.size : Int)))))) else (none)) else (none)) else (none)))) else (none)) else (if 0 ≤ x10 then (if x10 ≤ x1 then (if x1 ≤ (x0.size : Int) then ((spec_l2Number.f k (x0.extract (x10 : Int).toNat (x1 : Int).toNat)).bind fun t106 => (if x1 ≥ (x0.size : Int) then (some (0, false, (x0.size : Int))) else (if 0 ≤ x1 then (none) else (none)))) else (none)) else (none)) else (none))
def spec_l3ReadBy.l1 : Nat → ByteArray → Int → Int → Int → Option (Int × Bool × Int)
  | 0, _, _, _, _ => none
  | k + 1, x0, x1, x2, x12 => if x1 < (x0.size : Int) then (if 0 ≤ x1 then ((spec_l1Digit.f (bt x0 x1)).bind fun t107 => (if t107 = true then (spec_l3ReadBy.l1 k x0 (wrap64 (x1 + 1)) x2 x12) else (if x1 = x12 then (some (x2, false, x1)) else (if 0 ≤ x12 then (if x12 ≤ x1 then (if x1 ≤ (x0.size : Int) then ((spec_l2Number.f k (x0.extract (x12 : Int).toNat (x1 : Int).toNat)).bind fun t108 => (some (t108, true, x1))) else (none)) else (none)) else (none))))) else (none)) else (if x1 = x12 then (some (x2, false, x1)) else (if 0 ≤ x12 then (if x12 ≤ x1 then (if x1 ≤ (x0.size : Int) then ((spec_l2Number.f k (x0.extract (x12 : Int).toNat (x1 : Int).toNat)).bind fun t109 => (some (t109, true, x1))) else (none)) else (none)) else (none)))
end
def spec_l3ReadBy.f (k : Nat) (a0 : ByteArray) (a1 : Int) (a2 : Int) : Option (Int × Bool × Int) := if a1 < (a0.size : Int) then (if 0 ≤ a1 then (spec_l3ReadBy.j0 k a0 a1 a2 ((bt a0 a1) == 91)) else (none)) else (spec_l3ReadBy.j0 k a0 a1 a2 false)
theorem spec_l3ReadBy.mono_l : ∀ k, (∀ y0 y1 y2 y3, LeO (spec_l3ReadBy.j0 k y0 y1 y2 y3) (spec_l3ReadBy.j0 (k + 1) y0 y1 y2 y3)) ∧ (∀ y0 y1 y2 y3 y4, LeO (spec_l3ReadBy.j1 k y0 y1 y2 y3 y4) (spec_l3ReadBy.j1 (k + 1) y0 y1 y2 y3 y4)) ∧ (∀ y0 y1 y2 y3, LeO (spec_l3ReadBy.j2 k y0 y1 y2 y3) (spec_l3ReadBy.j2 (k + 1) y0 y1 y2 y3)) ∧ (∀ y0 y1 y2 y3 y4, LeO (spec_l3ReadBy.l0 k y0 y1 y2 y3 y4) (spec_l3ReadBy.l0 (k + 1) y0 y1 y2 y3 y4)) ∧ (∀ y0 y1 y2 y3, LeO (spec_l3ReadBy.l1 k y0 y1 y2 y3) (spec_l3ReadBy.l1 (k + 1) y0 y1 y2 y3))
  | 0 => ⟨fun _ _ _ _ r h => by simp [spec_l3ReadBy.j0] at h, fun _ _ _ _ _ r h => by simp [spec_l3ReadBy.j1] at h, fun _ _ _ _ r h => by simp [spec_l3ReadBy.j2] at h, fun _ _ _ _ _ r h => by simp [spec_l3ReadBy.l0] at h, fun _ _ _ _ r h => by simp [spec_l3ReadBy.l1] at h⟩
  | k + 1 => by
    obtain ⟨ih0, ih1, ih2, ih3, ih4⟩ := spec_l3ReadBy.mono_l k
    refine ⟨?_, ?_, ?_, ?_, ?_⟩
    · intro y0 y1 y2 y3
      unfold spec_l3ReadBy.j0
      repeat' first
      | (with_reducible exact ih0 _ _ _ _)
      | (with_reducible exact ih1 _ _ _ _ _)
      | (with_reducible exact ih2 _ _ _ _)
      | (with_reducible exact ih3 _ _ _ _ _)
      | (with_reducible exact ih4 _ _ _ _)
      | (with_reducible exact spec_l2Number.mono _ _)
      | (with_reducible exact LeO.refl _)
      | (with_reducible exact LeO.none _)
      | (with_reducible refine LeO.ite ?_ ?_)
      | (with_reducible refine LeO.bind ?_ (fun _ => ?_))
      | exact ih0 _ _ _ _
      | exact ih1 _ _ _ _ _
      | exact ih2 _ _ _ _
      | exact ih3 _ _ _ _ _
      | exact ih4 _ _ _ _
      | exact spec_l2Number.mono _ _
      | exact LeO.none _
      | refine LeO.ite ?_ ?_
      | refine LeO.bind ?_ (fun _ => ?_)
    · intro y0 y1 y2 y3 y4
      unfold spec_l3ReadBy.j1
      repeat' first
      | (with_reducible exact ih0 _ _ _ _)
      | (with_reducible exact ih1 _ _ _ _ _)
      | (with_reducible exact ih2 _ _ _ _)
      | (with_reducible exact ih3 _ _ _ _ _)
      | (with_reducible exact ih4 _ _ _ _)
      | (with_reducible exact spec_l2Number.mono _ _)
      | (with_reducible exact LeO.refl _)
      | (with_reducible exact LeO.none _)
      | (with_reducible refine LeO.ite ?_ ?_)
      | (with_reducible refine LeO.bind ?_ (fun _ => ?_))
      | exact ih0 _ _ _ _
      | exact ih1 _ _ _ _ _
      | exact ih2 _ _ _ _
      | exact ih3 _ _ _ _ _
      | exact ih4 _ _ _ _
      | exact spec_l2Number.mono _ _
      | exact LeO.none _
      | refine LeO.ite ?_ ?_
      | refine LeO.bind ?_ (fun _ => ?_)
    · intro y0 y1 y2 y3
      unfold spec_l3ReadBy.j2
      repeat' first
      | (with_reducible exact ih0 _ _ _ _)
      | (with_reducible exact ih1 _ _ _ _ _)
      | (with_reducible exact ih2 _ _ _ _)
      | (with_reducible exact ih3 _ _ _ _ _)
      | (with_reducible exact ih4 _ _ _ _)
      | (with_reducible exact spec_l2Number.mono _ _)
      | (with_reducible exact LeO.refl _)
      | (with_reducible exact LeO.none _)
      | (with_reducible refine LeO.ite ?_ ?_)
      | (with_reducible refine LeO.bind ?_ (fun _ => ?_))
      | exact ih0 _ _ _ _
      | exact ih1 _ _ _ _ _
      | exact ih2 _ _ _ _
      | exact ih3 _ _ _ _ _
      | exact ih4 _ _ _ _
      | exact spec_l2Number.mono _ _
      | exact LeO.none _
      | refine LeO.ite ?_ ?_
      | refine LeO.bind ?_ (fun _ => ?_)
    · intro y0 y1 y2 y3 y4
      unfold spec_l3ReadBy.l0
      repeat' first
      | (with_reducible exact ih0 _ _ _ _)
      | (with_reducible exact ih1 _ _ _ _ _)
      | (with_reducible exact ih2 _ _ _ _)
      | (with_reducible exact ih3 _ _ _ _ _)
      | (with_reducible exact ih4 _ _ _ _)
      | (with_reducible exact spec_l2Number.mono _ _)
      | (with_reducible exact LeO.refl _)
      | (with_reducible exact LeO.none _)
      | (with_reducible refine LeO.ite ?_ ?_)
      | (with_reducible refine LeO.bind ?_ (fun _ => ?_))
      | exact ih0 _ _ _ _
      | exact ih1 _ _ _ _ _
      | exact ih2 _ _ _ _
      | exact ih3 _ _ _ _ _
      | exact ih4 _ _ _ _
      | exact spec_l2Number.mono _ _
      | exact LeO.none _
      | refine LeO.ite ?_ ?_
      | refine LeO.bind ?_ (fun _ => ?_)
    · intro y0 y1 y2 y3
      unfold spec_l3ReadBy.l1
      repeat' first
      | (with_reducible exact ih0 _ _ _ _)
      | (with_reducible exact ih1 _ _ _ _ _)
      | (with_reducible exact ih2 _ _ _ _)
      | (with_reducible exact ih3 _ _ _ _ _)
      | (with_reducible exact ih4 _ _ _ _)
      | (with_reducible exact spec_l2Number.mono _ _)
      | (with_reducible exact LeO.refl _)
      | (with_reducible exact LeO.none _)
      | (with_reducible refine LeO.ite ?_ ?_)
      | (with_reducible refine LeO.bind ?_ (fun _ => ?_))
      | exact ih0 _ _ _ _
      | exact ih1 _ _ _ _ _
      | exact ih2 _ _ _ _
      | exact ih3 _ _ _ _ _
      | exact ih4 _ _ _ _
      | exact spec_l2Number.mono _ _
      | exact LeO.none _
      | refine LeO.ite ?_ ?_
      | refine LeO.bind ?_ (fun _ => ?_)
theorem spec_l3ReadBy.mono : ∀ a0 a1 a2 k, LeO (spec_l3ReadBy.f k a0 a1 a2) (spec_l3ReadBy.f (k + 1) a0 a1 a2) := by
  intro a0 a1 a2 k
  obtain ⟨ih0, ih1, ih2, ih3, ih4⟩ := spec_l3ReadBy.mono_l k
  unfold spec_l3ReadBy.f
  repeat' first
      | (with_reducible exact ih0 _ _ _ _)
      | (with_reducible exact ih1 _ _ _ _ _)
      | (with_reducible exact ih2 _ _ _ _)
      | (with_reducible exact ih3 _ _ _ _ _)
      | (with_reducible exact ih4 _ _ _ _)
      | (with_reducible exact spec_l2Number.mono _ _)
      | (with_reducible exact LeO.refl _)
      | (with_reducible exact LeO.none _)
      | (with_reducible refine LeO.ite ?_ ?_)
      | (with_reducible refine LeO.bind ?_ (fun _ => ?_))
      | exact ih0 _ _ _ _
      | exact ih1 _ _ _ _ _
      | exact ih2 _ _ _ _
      | exact ih3 _ _ _ _ _
      | exact ih4 _ _ _ _
      | exact spec_l2Number.mono _ _
      | exact LeO.none _
      | refine LeO.ite ?_ ?_
      | refine LeO.bind ?_ (fun _ => ?_)
set_option maxHeartbeats 8000000 in
set_option maxRecDepth 100000 in
theorem spec_l3ReadBy.calls (k : Nat) (a0 : ByteArray) (a1 : Int) (a2 : Int) (r1 : Int) (r2 : Bool) (r3 : Int) (w : World) (h : spec_l3ReadBy.f k a0 a1 a2 = some (r1, r2, r3)) :
    Calls Tryd.prog 32 #[.string a0, .int .i64 a1, .int .i64 a2] w fun e w' => e = .returned (.tuple #[.int .i64 r1, .bool r2, .int .i64 r3]) ∧ Drawn0 w w' := by
  have H : (if a1 < (a0.size : Int) then (if 0 ≤ a1 then (spec_l3ReadBy.j0 k a0 a1 a2 ((bt a0 a1) == 91)) else (none)) else (spec_l3ReadBy.j0 k a0 a1 a2 false)) = some (r1, r2, r3) := h
  clear h
  have HC4 := Aside0.mk H
  clear H
  go_enter Tryd.func32, Tryd.ntmps32
  go_upto_region 1 with (fail)
  go_cut [22] (fun v22 wc => ∃ (kq : Nat) (x22_3 : Bool), v22 = .bool x22_3 ∧ Aside0 (spec_l3ReadBy.j0 kq a0 a1 a2 x22_3 = some (r1, r2, r3)) ∧ Aside0 (kq ≤ k) ∧ Drawn0 w wc)
  case first =>
    have H := HC4.out
    clear HC4
    by_cases c5 : a1 < (a0.size : Int)
    · rw [if_pos c5] at H
      have c5b0 : decide (a1 < (a0.size : Int)) = true := decide_eq_true c5
      clear c5
      (first | rw [c5b0] | (simp only [i64_w, i32_w]; rw [c5b0]) | skip)
      by_cases c6 : 0 ≤ a1
      · rw [if_pos c6] at H
        have c6b0 : decide (0 ≤ a1) = true := decide_eq_true c6
        clear c6
        have H' := Aside0.mk H
        clear H
        have p7 : 0 ≤ (a1 : Int) := of_decide_eq_true (by first | (with_reducible assumption) | assumption)
        have q7 : a1 < (a0.size : Int) := of_decide_eq_true (by first | (with_reducible assumption) | assumption)
        have hx7 := bt_at a0 a1
        replace p7 := eq_true p7
        replace q7 := eq_true q7
        go_wp2
        go_meet
        case rel => exact ⟨_, (((bt a0 a1) == 91)), (by first | rfl | (simp; done) | (simp [*]; done) | (simp; unfold wrap64; omega)), H', ⟨by first | omega | exact Nat.le_refl _⟩, by repeat (first | exact Drawn0.refl _ | apply Drawn0.step)⟩
      · rw [if_neg c6] at H
        exact absurd H (by simp)
    · rw [if_neg c5] at H
      have c5b0 : decide (a1 < (a0.size : Int)) = false := decide_eq_false c5
      clear c5
      (first | rw [c5b0] | (simp only [i64_w, i32_w]; rw [c5b0]) | skip)
      have H' := Aside0.mk H
      clear H
      go_wp2
      go_meet
      case rel => exact ⟨_, (false), (by first | rfl | (simp; done) | (simp [*]; done) | (simp; unfold wrap64; omega)), H', ⟨by first | omega | exact Nat.le_refl _⟩, by repeat (first | exact Drawn0.refl _ | apply Drawn0.step)⟩
  case rest =>
    clear HC4
    try clear p2
    try clear c3
    try clear c5
    try clear c5b0
    try clear c6
    try clear c6b0
    try clear p7
    try clear q7
    try clear hx7
    try clear p7
    try clear q7
    obtain ⟨kq, x22_3, rfl, HA, HJ3, ⟨mc3, rfl⟩⟩ := hcut
    cases kq with
    | zero => exact absurd HA.out (by simp [spec_l3ReadBy.j0])
    | succ kj3 =>
      have H := HA.out
      clear HA
      simp only [spec_l3ReadBy.j0] at H
      by_cases c8 : x22_3 = true
      · subst c8
        have H1 : (if (wrap64 (a1 + 1)) < (a0.size : Int) then (if 0 ≤ (wrap64 (a1 + 1)) then (spec_l3ReadBy.j1 kj3 a0 (wrap64 (a1 + 1)) a2 1 ((bt a0 (wrap64 (a1 + 1))) == 45)) else (none)) else (spec_l3ReadBy.j1 kj3 a0 (wrap64 (a1 + 1)) a2 1 false)) = some (r1, r2, r3) := by rw [if_pos rfl] at H; exact H
        clear H
        have H := H1
        clear H1
        have HC9 := Aside0.mk H
        clear H
        go_upto_region 4 with (fail)
        go_cut [34] (fun v34 wc => ∃ (kq : Nat) (x34_8 : Bool), v34 = .bool x34_8 ∧ Aside0 (spec_l3ReadBy.j1 kq a0 (wrap64 (a1 + 1)) a2 1 x34_8 = some (r1, r2, r3)) ∧ Aside0 (kq ≤ kj3) ∧ Drawn0 w wc)
        case first =>
          have H := HC9.out
          clear HC9
          by_cases c10 : (wrap64 (a1 + 1)) < (a0.size : Int)
          · rw [if_pos c10] at H
            have c10b0 : decide ((wrap64 (a1 + 1)) < (a0.size : Int)) = true := decide_eq_true c10
            clear c10
            (first | rw [c10b0] | (simp only [i64_w, i32_w]; rw [c10b0]) | skip)
            obtain ⟨ji11, hji11⟩ : ∃ j_ : Int, (wrap64 (a1 + 1)) = j_ := ⟨_, rfl⟩
            replace H : (if 0 ≤ (ji11) then (spec_l3ReadBy.j1 kj3 a0 ji11 a2 1 ((bt a0 (ji11)) == 45)) else (none)) = some (r1, r2, r3) := by first | (rw [hji11] at H; exact H) | (simp only [hji11] at H ⊢; exact H)
            (try rw [hji11] at c10b0)
            have hji11w : (IntKind.i64.wrap (a1 + 1)) = ji11 := (i64_w _).trans hji11
            by_cases c12 : 0 ≤ (ji11)
            · rw [if_pos c12] at H
              have c12b0 : decide (0 ≤ (ji11)) = true := decide_eq_true c12
              clear c12
              have H' := Aside0.mk H
              clear H
              have p13 : 0 ≤ ((ji11) : Int) := of_decide_eq_true (by first | (with_reducible assumption) | assumption)
              have q13 : (ji11) < (a0.size : Int) := of_decide_eq_true (by first | (with_reducible assumption) | assumption)
              have hx13 := bt_at a0 (ji11)
              replace p13 := eq_true p13
              replace q13 := eq_true q13
              go_wp2
              go_meet
              case rel => exact ⟨_, (((bt a0 (ji11)) == 45)), (by first | rfl | (simp; done) | (simp only [← hji11] <;> (first | rfl | simp)) | (simp [*]; done)), (by first | exact H' | exact ⟨by (try rw [hji11]); exact H'.out⟩), ⟨by have := HJ3.out; first | omega | exact Nat.le_refl _⟩, by repeat (first | exact Drawn0.refl _ | apply Drawn0.step)⟩
            · rw [if_neg c12] at H
              exact absurd H (by simp)
          · rw [if_neg c10] at H
            have c10b0 : decide ((wrap64 (a1 + 1)) < (a0.size : Int)) = false := decide_eq_false c10
            clear c10
            (first | rw [c10b0] | (simp only [i64_w, i32_w]; rw [c10b0]) | skip)
            have H' := Aside0.mk H
            clear H
            go_wp2
            go_meet
            case rel => exact ⟨_, (false), (by first | rfl | (simp; done) | (simp [*]; done) | (simp; unfold wrap64; omega)), H', ⟨by have := HJ3.out; first | omega | exact Nat.le_refl _⟩, by repeat (first | exact Drawn0.refl _ | apply Drawn0.step)⟩
        case rest =>
          clear HC9
          try clear c1
          try clear p1
          try clear q1
          try clear hx1
          try clear p2
          try clear c3
          try clear c5
          try clear c5b0
          try clear c6
          try clear c6b0
          try clear p6
          try clear p7
          try clear q7
          try clear hx7
          try clear c8
          try clear c10
          try clear c10b0
          try clear c12
          try clear c12b0
          try clear p13
          try clear q13
          try clear hx13
          try clear p13
          try clear p2
          try clear p7
          try clear q13
          try clear q7
          obtain ⟨kq, x34_8, rfl, HA, HJ8, ⟨mc8, rfl⟩⟩ := hcut
          cases kq with
          | zero => exact absurd HA.out (by simp [spec_l3ReadBy.j1])
          | succ kj8 =>
            have H := HA.out
            clear HA
            simp only [spec_l3ReadBy.j1] at H
            have HC14 := Aside0.mk H
            clear H
            go_upto_if 34 with (fail)
            go_cut [1, 9] (fun v1 v9 wc => ∃ (kq : Nat) (x1_13 : Int) (x9_13 : Int), v1 = .int .i64 x1_13 ∧ v9 = .int .i64 x9_13 ∧ Aside0 (spec_l3ReadBy.j2 kq a0 x1_13 a2 x9_13 = some (r1, r2, r3)) ∧ Aside0 (kq ≤ kj8) ∧ Drawn0 w wc)
            case first =>
              have H := HC14.out
              clear HC14
              by_cases c15 : x34_8 = true
              · subst c15
                have H1 : (spec_l3ReadBy.j2 kj8 a0 (wrap64 ((wrap64 (a1 + 1)) + 1)) a2 (-1)) = some (r1, r2, r3) := by rw [if_pos rfl] at H; exact H
                clear H
                have H := H1
                clear H1
                have H' := Aside0.mk H
                clear H
                go_wp2
                go_meet
                case rel => exact ⟨_, (wrap64 ((wrap64 (a1 + 1)) + 1)), ((-1)), (by first | rfl | (simp; done) | (simp [*]; done) | (simp; unfold wrap64; omega)), (by first | rfl | (simp; done) | (simp [*]; done) | (simp; unfold wrap64; omega)), H', ⟨by have := HJ3.out; have := HJ8.out; first | omega | exact Nat.le_refl _⟩, by repeat (first | exact Drawn0.refl _ | apply Drawn0.step)⟩
              · replace c15 := Bool.eq_false_iff.mpr c15
                subst c15
                have H1 : (spec_l3ReadBy.j2 kj8 a0 (wrap64 (a1 + 1)) a2 1) = some (r1, r2, r3) := by rw [if_neg (show ¬ (false = true) by decide)] at H; exact H
                clear H
                have H := H1
                clear H1
                have H' := Aside0.mk H
                clear H
                go_wp2
                go_meet
                case rel => exact ⟨_, ((wrap64 (a1 + 1))), (1), (by first | rfl | (simp; done) | (simp [*]; done) | (simp; unfold wrap64; omega)), (by first | rfl | (simp; done) | (simp [*]; done) | (simp; unfold wrap64; omega)), H', ⟨by have := HJ3.out; have := HJ8.out; first | omega | exact Nat.le_refl _⟩, by repeat (first | exact Drawn0.refl _ | apply Drawn0.step)⟩
            case rest =>
              clear HC14
              try clear c1
              try clear p1
              try clear q1
              try clear hx1
              try clear p2
              try clear c3
              try clear c5
              try clear c5b0
              try clear c6
              try clear c6b0
              try clear p6
              try clear p7
              try clear q7
              try clear hx7
              try clear c8
              try clear c10
              try clear c10b0
              try clear c12
              try clear c12b0
              try clear p13
              try clear q13
              try clear hx13
              try clear c15
              try clear p1
              try clear p13
              try clear p2
              try clear p6
              try clear p7
              try clear q1
              try clear q13
              try clear q7
              obtain ⟨kq, x1_13, x9_13, rfl, rfl, HA, HJ13, ⟨mc13, rfl⟩⟩ := hcut
              cases kq with
              | zero => exact absurd HA.out (by simp [spec_l3ReadBy.j2])
              | succ kj13 =>
                have H := HA.out
                clear HA
                simp only [spec_l3ReadBy.j2] at H
                have H' := Aside0.mk H
                clear H
                go_wp2
                go_loopg [1] kj13 (fun kq v1 w' => ∃ (x1_4 : Int), v1 = .int .i64 x1_4 ∧ Aside0 (spec_l3ReadBy.l0 kq a0 x1_4 a2 x9_13 x1_13 = some (r1, r2, r3)) ∧ Aside0 (kq ≤ kj13) ∧ Drawn0 w w')
                case atStart => exact ⟨(x1_13), (by first | rfl | (simp; done) | (simp [*]; done) | (simp; unfold wrap64; omega)), H', ⟨Nat.le_refl _⟩, by repeat (first | exact Drawn0.refl _ | apply Drawn0.step)⟩
                case round =>
                  clear H'
                  try clear c1
                  try clear p1
                  try clear q1
                  try clear hx1
                  try clear p2
                  try clear c3
                  try clear c5
                  try clear c5b0
                  try clear c6
                  try clear c6b0
                  try clear p6
                  try clear p7
                  try clear q7
                  try clear hx7
                  try clear c8
                  try clear c10
                  try clear c10b0
                  try clear c12
                  try clear c12b0
                  try clear c13
                  try clear p13
                  try clear q13
                  try clear hx13
                  try clear c15
                  try clear p1
                  try clear p13
                  try clear p2
                  try clear p6
                  try clear p7
                  try clear q1
                  try clear q13
                  try clear q7
                  obtain ⟨x1_4, rfl, HA, HK4, ⟨m4, rfl⟩⟩ := hrel
                  cases gk with
                  | zero => exact absurd HA.out (by simp [spec_l3ReadBy.l0])
                  | succ k4 =>
                    have H := HA.out
                    clear HA
                    simp only [spec_l3ReadBy.l0] at H
                    by_cases c16 : x1_4 < (a0.size : Int)
                    · rw [if_pos c16] at H
                      have c16b0 : decide (x1_4 < (a0.size : Int)) = true := decide_eq_true c16
                      clear c16
                      by_cases c17 : 0 ≤ x1_4
                      · rw [if_pos c17] at H
                        have c17b0 : decide (0 ≤ x1_4) = true := decide_eq_true c17
                        clear c17
                        replace H := Option.bind_eq_some_iff.mp H
                        obtain ⟨t104, A190, H⟩ := H
                        replace H : (if t104 = true then (spec_l3ReadBy.l0 k4 a0 (wrap64 (x1_4 + 1)) a2 x9_13 x1_13) else (if 0 ≤ x1_13 then (if x1_13 ≤ x1_4 then (if x1_4 ≤ (a0.size : Int) then ((spec_l2Number.f k4 (a0.extract (x1_13 : Int).toNat (x1_4 : Int).toNat)).bind fun t105 => (if x1_4 ≥ (a0.size : Int) then (some (0, false, (a0.size : Int))) else (if (bt a0 x1_4) = 93 then (if t105 < 0 then (some (0, false, (a0.size : Int))) else (some (wrap64 (a2 + (wrap64 (x9_13 * t105))), false, wrap64 (x1_4 + 1)))) else (some (0, false, (a0.size : Int)))))) else (none)) else (none)) else (none))) = some (r1, r2, r3) := H
                        have A19 := Aside0.mk A190
                        clear A190
                        by_cases c20 : t104 = true
                        · subst c20
                          have H1 : (spec_l3ReadBy.l0 k4 a0 (wrap64 (x1_4 + 1)) a2 x9_13 x1_13) = some (r1, r2, r3) := by rw [if_pos rfl] at H; exact H
                          clear H
                          have H := H1
                          clear H1
                          have H' := Aside0.mk H
                          clear H
                          have p18 : 0 ≤ (x1_4 : Int) := of_decide_eq_true (by first | (with_reducible assumption) | assumption)
                          have q18 : x1_4 < (a0.size : Int) := of_decide_eq_true (by first | (with_reducible assumption) | assumption)
                          have hx18 := bt_at a0 x1_4
                          replace p18 := eq_true p18
                          replace q18 := eq_true q18
                          go_wp2_with (first | (go_at_call 64; (with_reducible refine (spec_l1Digit.calls (bt a0 x1_4) true _ A19.out).mono ?_); rintro e w' ⟨rfl, ⟨nd, rfl⟩⟩))
                          go_roundg k4
                          case measure => have := HJ3.out; have := HJ8.out; have := HJ13.out; have := HK4.out; omega
                          case rel => exact ⟨(wrap64 (x1_4 + 1)), (by first | rfl | (simp; done) | (simp [*]; done) | (simp; unfold wrap64; omega)), H', ⟨by have := HJ3.out; have := HJ8.out; have := HJ13.out; have := HK4.out; omega⟩, by repeat (first | exact Drawn0.refl _ | apply Drawn0.step)⟩
                        · replace c20 := Bool.eq_false_iff.mpr c20
                          subst c20
                          have H1 : (if 0 ≤ x1_13 then (if x1_13 ≤ x1_4 then (if x1_4 ≤ (a0.size : Int) then ((spec_l2Number.f k4 (a0.extract (x1_13 : Int).toNat (x1_4 : Int).toNat)).bind fun t105 => (if x1_4 ≥ (a0.size : Int) then (some (0, false, (a0.size : Int))) else (if (bt a0 x1_4) = 93 then (if t105 < 0 then (some (0, false, (a0.size : Int))) else (some (wrap64 (a2 + (wrap64 (x9_13 * t105))), false, wrap64 (x1_4 + 1)))) else (some (0, false, (a0.size : Int)))))) else (none)) else (none)) else (none)) = some (r1, r2, r3) := by rw [if_neg (show ¬ (false = true) by decide)] at H; exact H
                          clear H
                          have H := H1
                          clear H1
                          by_cases c21 : 0 ≤ x1_13
                          · rw [if_pos c21] at H
                            have c21b0 := eq_true c21
                            have c21b1 : decide (0 ≤ x1_13) = true := decide_eq_true c21
                            clear c21
                            by_cases c22 : x1_13 ≤ x1_4
                            · rw [if_pos c22] at H
                              have c22b0 := eq_true c22
                              have c22b1 : decide (x1_13 ≤ x1_4) = true := decide_eq_true c22
                              clear c22
                              by_cases c23 : x1_4 ≤ (a0.size : Int)
                              · rw [if_pos c23] at H
                                have c23b0 := eq_true c23
                                have c23b1 : decide (x1_4 ≤ (a0.size : Int)) = true := decide_eq_true c23
                                clear c23
                                replace H := Option.bind_eq_some_iff.mp H
                                obtain ⟨t105, A240, H⟩ := H
                                replace H : (if x1_4 ≥ (a0.size : Int) then (some (0, false, (a0.size : Int))) else (if (bt a0 x1_4) = 93 then (if t105 < 0 then (some (0, false, (a0.size : Int))) else (some (wrap64 (a2 + (wrap64 (x9_13 * t105))), false, wrap64 (x1_4 + 1)))) else (some (0, false, (a0.size : Int))))) = some (r1, r2, r3) := H
                                have A24 := Aside0.mk A240
                                clear A240
                                by_cases c25 : x1_4 ≥ (a0.size : Int)
                                · rw [if_pos c25] at H
                                  have c25b0 : decide ((a0.size : Int) ≤ x1_4) = true := decide_eq_true c25
                                  clear c25
                                  simp only [Option.some.injEq, Prod.mk.injEq] at H
                                  obtain ⟨rfl, rfl, rfl⟩ := H
                                  have p18 : 0 ≤ (x1_4 : Int) := of_decide_eq_true (by first | (with_reducible assumption) | assumption)
                                  have q18 : x1_4 < (a0.size : Int) := of_decide_eq_true (by first | (with_reducible assumption) | assumption)
                                  have hx18 := bt_at a0 x1_4
                                  replace p18 := eq_true p18
                                  replace q18 := eq_true q18
                                  go_wp2_with (first | (go_at_call 64; (with_reducible refine (spec_l1Digit.calls (bt a0 x1_4) false _ A19.out).mono ?_); rintro e w' ⟨rfl, ⟨nd, rfl⟩⟩) | ((with_reducible refine gate_callee (f := 39) rfl ?_); refine goesL_ (some 54) rfl rfl Tryd.func39 (by kernel_rfl) rfl #[.string (a0.extract (x1_13 : Int).toNat (x1_4 : Int).toNat)] rfl (by (try simp only [List.map_toArray, List.map_cons, List.map_nil]); first | done | rfl | (simp only [List.length_drop, List.length_take]; rfl)) ?_; (with_reducible refine (spec_l2Number.calls k4 (a0.extract (x1_13 : Int).toNat (x1_4 : Int).toNat) t105 _ A24.out).mono ?_); rintro e w' ⟨rfl, ⟨nd, rfl⟩⟩; refine ⟨_, rfl, ?_⟩))
                                  go_ret3
                                  exact ⟨by first | rfl | (simp; done) | (simp [*]; done), by repeat (first | exact Drawn0.refl _ | apply Drawn0.step)⟩
                                · rw [if_neg c25] at H
                                  have c25b0 : decide ((a0.size : Int) ≤ x1_4) = false := decide_eq_false c25
                                  clear c25
                                  by_cases c27 : (bt a0 x1_4) = 93
                                  · rw [if_pos c27] at H
                                    have c27b0 : ((bt a0 x1_4) == 93) = true := beq_iff_eq.mpr c27
                                    have c27b1 : ((bt a0 x1_4) != 93) = false := bne_eq_false_iff_eq.mpr c27
                                    clear c27
                                    by_cases c28 : t105 < 0
                                    · rw [if_pos c28] at H
                                      have c28b0 : decide (t105 < 0) = true := decide_eq_true c28
                                      clear c28
                                      simp only [Option.some.injEq, Prod.mk.injEq] at H
                                      obtain ⟨rfl, rfl, rfl⟩ := H
                                      have p18 : 0 ≤ (x1_4 : Int) := of_decide_eq_true (by first | (with_reducible assumption) | assumption)
                                      have q18 : x1_4 < (a0.size : Int) := of_decide_eq_true (by first | (with_reducible assumption) | assumption)
                                      have hx18 := bt_at a0 x1_4
                                      replace p18 := eq_true p18
                                      replace q18 := eq_true q18
                                      go_wp2_with (first | (go_at_call 64; (with_reducible refine (spec_l1Digit.calls (bt a0 x1_4) false _ A19.out).mono ?_); rintro e w' ⟨rfl, ⟨nd, rfl⟩⟩) | ((with_reducible refine gate_callee (f := 39) rfl ?_); refine goesL_ (some 54) rfl rfl Tryd.func39 (by kernel_rfl) rfl #[.string (a0.extract (x1_13 : Int).toNat (x1_4 : Int).toNat)] rfl (by (try simp only [List.map_toArray, List.map_cons, List.map_nil]); first | done | rfl | (simp only [List.length_drop, List.length_take]; rfl)) ?_; (with_reducible refine (spec_l2Number.calls k4 (a0.extract (x1_13 : Int).toNat (x1_4 : Int).toNat) t105 _ A24.out).mono ?_); rintro e w' ⟨rfl, ⟨nd, rfl⟩⟩; refine ⟨_, rfl, ?_⟩; have p26 : 0 ≤ (x1_4 : Int) := of_decide_eq_true (by first | (with_reducible assumption) | assumption); have q26 : x1_4 < (a0.size : Int) := of_decide_eq_true (by first | (with_reducible assumption) | assumption); have hx26 := bt_at a0 x1_4; replace p26 := eq_true p26; replace q26 := eq_true q26))
                                      go_ret3
                                      exact ⟨by first | rfl | (simp; done) | (simp [*]; done), by repeat (first | exact Drawn0.refl _ | apply Drawn0.step)⟩
                                    · rw [if_neg c28] at H
                                      have c28b0 : decide (t105 < 0) = false := decide_eq_false c28
                                      clear c28
                                      simp only [Option.some.injEq, Prod.mk.injEq] at H
                                      obtain ⟨rfl, rfl, rfl⟩ := H
                                      have p18 : 0 ≤ (x1_4 : Int) := of_decide_eq_true (by first | (with_reducible assumption) | assumption)
                                      have q18 : x1_4 < (a0.size : Int) := of_decide_eq_true (by first | (with_reducible assumption) | assumption)
                                      have hx18 := bt_at a0 x1_4
                                      replace p18 := eq_true p18
                                      replace q18 := eq_true q18
                                      go_wp2_with (first | (go_at_call 64; (with_reducible refine (spec_l1Digit.calls (bt a0 x1_4) false _ A19.out).mono ?_); rintro e w' ⟨rfl, ⟨nd, rfl⟩⟩) | ((with_reducible refine gate_callee (f := 39) rfl ?_); refine goesL_ (some 54) rfl rfl Tryd.func39 (by kernel_rfl) rfl #[.string (a0.extract (x1_13 : Int).toNat (x1_4 : Int).toNat)] rfl (by (try simp only [List.map_toArray, List.map_cons, List.map_nil]); first | done | rfl | (simp only [List.length_drop, List.length_take]; rfl)) ?_; (with_reducible refine (spec_l2Number.calls k4 (a0.extract (x1_13 : Int).toNat (x1_4 : Int).toNat) t105 _ A24.out).mono ?_); rintro e w' ⟨rfl, ⟨nd, rfl⟩⟩; refine ⟨_, rfl, ?_⟩; have p26 : 0 ≤ (x1_4 : Int) := of_decide_eq_true (by first | (with_reducible assumption) | assumption); have q26 : x1_4 < (a0.size : Int) := of_decide_eq_true (by first | (with_reducible assumption) | assumption); have hx26 := bt_at a0 x1_4; replace p26 := eq_true p26; replace q26 := eq_true q26))
                                      go_ret3
                                      exact ⟨by first | rfl | (simp; done) | (simp [*]; done), by repeat (first | exact Drawn0.refl _ | apply Drawn0.step)⟩
                                  · rw [if_neg c27] at H
                                    have c27b0 : ((bt a0 x1_4) == 93) = false := beq_eq_false_iff_ne.mpr c27
                                    have c27b1 : ((bt a0 x1_4) != 93) = true := bne_iff_ne.mpr c27
                                    simp only [Option.some.injEq, Prod.mk.injEq] at H
                                    obtain ⟨rfl, rfl, rfl⟩ := H
                                    have p18 : 0 ≤ (x1_4 : Int) := of_decide_eq_true (by first | (with_reducible assumption) | assumption)
                                    have q18 : x1_4 < (a0.size : Int) := of_decide_eq_true (by first | (with_reducible assumption) | assumption)
                                    have hx18 := bt_at a0 x1_4
                                    replace p18 := eq_true p18
                                    replace q18 := eq_true q18
                                    go_wp2_with (first | (go_at_call 64; (with_reducible refine (spec_l1Digit.calls (bt a0 x1_4) false _ A19.out).mono ?_); rintro e w' ⟨rfl, ⟨nd, rfl⟩⟩) | ((with_reducible refine gate_callee (f := 39) rfl ?_); refine goesL_ (some 54) rfl rfl Tryd.func39 (by kernel_rfl) rfl #[.string (a0.extract (x1_13 : Int).toNat (x1_4 : Int).toNat)] rfl (by (try simp only [List.map_toArray, List.map_cons, List.map_nil]); first | done | rfl | (simp only [List.length_drop, List.length_take]; rfl)) ?_; (with_reducible refine (spec_l2Number.calls k4 (a0.extract (x1_13 : Int).toNat (x1_4 : Int).toNat) t105 _ A24.out).mono ?_); rintro e w' ⟨rfl, ⟨nd, rfl⟩⟩; refine ⟨_, rfl, ?_⟩; have p26 : 0 ≤ (x1_4 : Int) := of_decide_eq_true (by first | (with_reducible assumption) | assumption); have q26 : x1_4 < (a0.size : Int) := of_decide_eq_true (by first | (with_reducible assumption) | assumption); have hx26 := bt_at a0 x1_4; replace p26 := eq_true p26; replace q26 := eq_true q26))
                                    go_ret3
                                    exact ⟨by first | rfl | (simp; done) | (simp [*]; done), by repeat (first | exact Drawn0.refl _ | apply Drawn0.step)⟩
                              · rw [if_neg c23] at H
                                exact absurd H (by simp)
                            · rw [if_neg c22] at H
                              exact absurd H (by simp)
                          · rw [if_neg c21] at H
                            exact absurd H (by simp)
                      · rw [if_neg c17] at H
                        exact absurd H (by simp)
                    · rw [if_neg c16] at H
                      have c16b0 : decide (x1_4 < (a0.size : Int)) = false := decide_eq_false c16
                      clear c16
                      by_cases c29 : 0 ≤ x1_13
                      · rw [if_pos c29] at H
                        have c29b0 := eq_true c29
                        have c29b1 : decide (0 ≤ x1_13) = true := decide_eq_true c29
                        clear c29
                        by_cases c30 : x1_13 ≤ x1_4
                        · rw [if_pos c30] at H
                          have c30b0 := eq_true c30
                          have c30b1 : decide (x1_13 ≤ x1_4) = true := decide_eq_true c30
                          clear c30
                          by_cases c31 : x1_4 ≤ (a0.size : Int)
                          · rw [if_pos c31] at H
                            have c31b0 := eq_true c31
                            have c31b1 : decide (x1_4 ≤ (a0.size : Int)) = true := decide_eq_true c31
                            clear c31
                            replace H := Option.bind_eq_some_iff.mp H
                            obtain ⟨t106, A320, H⟩ := H
                            replace H : (if x1_4 ≥ (a0.size : Int) then (some (0, false, (a0.size : Int))) else (if 0 ≤ x1_4 then (none) else (none))) = some (r1, r2, r3) := H
                            have A32 := Aside0.mk A320
                            clear A320
                            by_cases c33 : x1_4 ≥ (a0.size : Int)
                            · rw [if_pos c33] at H
                              have c33b0 : decide ((a0.size : Int) ≤ x1_4) = true := decide_eq_true c33
                              clear c33
                              simp only [Option.some.injEq, Prod.mk.injEq] at H
                              obtain ⟨rfl, rfl, rfl⟩ := H
                              go_wp2_with (first | ((with_reducible refine gate_callee (f := 39) rfl ?_); refine goesL_ (some 54) rfl rfl Tryd.func39 (by kernel_rfl) rfl #[.string (a0.extract (x1_13 : Int).toNat (x1_4 : Int).toNat)] rfl (by (try simp only [List.map_toArray, List.map_cons, List.map_nil]); first | done | rfl | (simp only [List.length_drop, List.length_take]; rfl)) ?_; (with_reducible refine (spec_l2Number.calls k4 (a0.extract (x1_13 : Int).toNat (x1_4 : Int).toNat) t106 _ A32.out).mono ?_); rintro e w' ⟨rfl, ⟨nd, rfl⟩⟩; refine ⟨_, rfl, ?_⟩))
                              go_ret3
                              exact ⟨by first | rfl | (simp; done) | (simp [*]; done), by repeat (first | exact Drawn0.refl _ | apply Drawn0.step)⟩
                            · rw [if_neg c33] at H
                              have c33b0 : decide ((a0.size : Int) ≤ x1_4) = false := decide_eq_false c33
                              clear c33
                              by_cases c34 : 0 ≤ x1_4
                              · rw [if_pos c34] at H
                                exact absurd H (by simp)
                              · rw [if_neg c34] at H
                                exact absurd H (by simp)
                          · rw [if_neg c31] at H
                            exact absurd H (by simp)
                        · rw [if_neg c30] at H
                          exact absurd H (by simp)
                      · rw [if_neg c29] at H
                        exact absurd H (by simp)
      · replace c8 := Bool.eq_false_iff.mpr c8
        subst c8
        have H1 : (spec_l3ReadBy.l1 kj3 a0 a1 a2 a1) = some (r1, r2, r3) := by rw [if_neg (show ¬ (false = true) by decide)] at H; exact H
        clear H
        have H := H1
        clear H1
        have H' := Aside0.mk H
        clear H
        go_wp2
        go_loopg [1] kj3 (fun kq v1 w' => ∃ (x1_2 : Int), v1 = .int .i64 x1_2 ∧ Aside0 (spec_l3ReadBy.l1 kq a0 x1_2 a2 a1 = some (r1, r2, r3)) ∧ Aside0 (kq ≤ kj3) ∧ Drawn0 w w')
        case atStart => exact ⟨(a1), (by first | rfl | (simp; done) | (simp [*]; done) | (simp; unfold wrap64; omega)), H', ⟨Nat.le_refl _⟩, by repeat (first | exact Drawn0.refl _ | apply Drawn0.step)⟩
        case round =>
          clear H'
          try clear c1
          try clear p1
          try clear q1
          try clear hx1
          try clear c2
          try clear p2
          try clear q2
          try clear hx2
          try clear c3
          try clear c5
          try clear c5b0
          try clear c6
          try clear c6b0
          try clear p6
          try clear p7
          try clear q7
          try clear hx7
          try clear c8
          try clear c10
          try clear c10b0
          try clear c12
          try clear c12b0
          try clear c13
          try clear p13
          try clear q13
          try clear hx13
          try clear c15
          try clear c16
          try clear c16b0
          try clear c17
          try clear c17b0
          try clear p18
          try clear q18
          try clear hx18
          try clear c20
          try clear c21
          try clear c21b0
          try clear c21b1
          try clear c22
          try clear c22b0
          try clear c22b1
          try clear c23
          try clear c23b0
          try clear c23b1
          try clear c25
          try clear c25b0
          try clear p26
          try clear q26
          try clear hx26
          try clear c27
          try clear c27b0
          try clear c27b1
          try clear c28
          try clear c28b0
          try clear c29
          try clear c29b0
          try clear c29b1
          try clear c30
          try clear c30b0
          try clear c30b1
          try clear c31
          try clear c31b0
          try clear c31b1
          try clear c32
          try clear c33
          try clear c33b0
          try clear c34
          try clear p1
          try clear p13
          try clear p18
          try clear p2
          try clear p26
          try clear p6
          try clear p7
          try clear q1
          try clear q13
          try clear q18
          try clear q26
          try clear q7
          obtain ⟨x1_2, rfl, HA, HK2, ⟨m2, rfl⟩⟩ := hrel
          cases gk with
          | zero => exact absurd HA.out (by simp [spec_l3ReadBy.l1])
          | succ k2 =>
            have H := HA.out
            clear HA
            simp only [spec_l3ReadBy.l1] at H
            by_cases c35 : x1_2 < (a0.size : Int)
            · rw [if_pos c35] at H
              have c35b0 : decide (x1_2 < (a0.size : Int)) = true := decide_eq_true c35
              clear c35
              by_cases c36 : 0 ≤ x1_2
              · rw [if_pos c36] at H
                have c36b0 : decide (0 ≤ x1_2) = true := decide_eq_true c36
                clear c36
                replace H := Option.bind_eq_some_iff.mp H
                obtain ⟨t107, A380, H⟩ := H
                replace H : (if t107 = true then (spec_l3ReadBy.l1 k2 a0 (wrap64 (x1_2 + 1)) a2 a1) else (if x1_2 = a1 then (some (a2, false, x1_2)) else (if 0 ≤ a1 then (if a1 ≤ x1_2 then (if x1_2 ≤ (a0.size : Int) then ((spec_l2Number.f k2 (a0.extract (a1 : Int).toNat (x1_2 : Int).toNat)).bind fun t108 => (some (t108, true, x1_2))) else (none)) else (none)) else (none)))) = some (r1, r2, r3) := H
                have A38 := Aside0.mk A380
                clear A380
                by_cases c39 : t107 = true
                · subst c39
                  have H1 : (spec_l3ReadBy.l1 k2 a0 (wrap64 (x1_2 + 1)) a2 a1) = some (r1, r2, r3) := by rw [if_pos rfl] at H; exact H
                  clear H
                  have H := H1
                  clear H1
                  have H' := Aside0.mk H
                  clear H
                  have p37 : 0 ≤ (x1_2 : Int) := of_decide_eq_true (by first | (with_reducible assumption) | assumption)
                  have q37 : x1_2 < (a0.size : Int) := of_decide_eq_true (by first | (with_reducible assumption) | assumption)
                  have hx37 := bt_at a0 x1_2
                  replace p37 := eq_true p37
                  replace q37 := eq_true q37
                  go_wp2_with (first | (go_at_call 64; (with_reducible refine (spec_l1Digit.calls (bt a0 x1_2) true _ A38.out).mono ?_); rintro e w' ⟨rfl, ⟨nd, rfl⟩⟩))
                  go_roundg k2
                  case measure => have := HJ3.out; have := HK2.out; omega
                  case rel => exact ⟨(wrap64 (x1_2 + 1)), (by first | rfl | (simp; done) | (simp [*]; done) | (simp; unfold wrap64; omega)), H', ⟨by have := HJ3.out; have := HK2.out; omega⟩, by repeat (first | exact Drawn0.refl _ | apply Drawn0.step)⟩
                · replace c39 := Bool.eq_false_iff.mpr c39
                  subst c39
                  have H1 : (if x1_2 = a1 then (some (a2, false, x1_2)) else (if 0 ≤ a1 then (if a1 ≤ x1_2 then (if x1_2 ≤ (a0.size : Int) then ((spec_l2Number.f k2 (a0.extract (a1 : Int).toNat (x1_2 : Int).toNat)).bind fun t108 => (some (t108, true, x1_2))) else (none)) else (none)) else (none))) = some (r1, r2, r3) := by rw [if_neg (show ¬ (false = true) by decide)] at H; exact H
                  clear H
                  have H := H1
                  clear H1
                  by_cases c40 : x1_2 = a1
                  · rw [if_pos c40] at H
                    have c40b0 : (x1_2 == a1) = true := beq_iff_eq.mpr c40
                    have c40b1 : (x1_2 != a1) = false := bne_eq_false_iff_eq.mpr c40
                    clear c40
                    simp only [Option.some.injEq, Prod.mk.injEq] at H
                    obtain ⟨rfl, rfl, rfl⟩ := H
                    have p37 : 0 ≤ (x1_2 : Int) := of_decide_eq_true (by first | (with_reducible assumption) | assumption)
                    have q37 : x1_2 < (a0.size : Int) := of_decide_eq_true (by first | (with_reducible assumption) | assumption)
                    have hx37 := bt_at a0 x1_2
                    replace p37 := eq_true p37
                    replace q37 := eq_true q37
                    go_wp2_with (first | (go_at_call 64; (with_reducible refine (spec_l1Digit.calls (bt a0 x1_2) false _ A38.out).mono ?_); rintro e w' ⟨rfl, ⟨nd, rfl⟩⟩))
                    go_ret3
                    exact ⟨by first | rfl | (simp; done) | (simp [*]; done), by repeat (first | exact Drawn0.refl _ | apply Drawn0.step)⟩
                  · rw [if_neg c40] at H
                    have c40b0 : (x1_2 == a1) = false := beq_eq_false_iff_ne.mpr c40
                    have c40b1 : (x1_2 != a1) = true := bne_iff_ne.mpr c40
                    by_cases c41 : 0 ≤ a1
                    · rw [if_pos c41] at H
                      have c41b0 := eq_true c41
                      have c41b1 : decide (0 ≤ a1) = true := decide_eq_true c41
                      clear c41
                      by_cases c42 : a1 ≤ x1_2
                      · rw [if_pos c42] at H
                        have c42b0 := eq_true c42
                        have c42b1 : decide (a1 ≤ x1_2) = true := decide_eq_true c42
                        clear c42
                        by_cases c43 : x1_2 ≤ (a0.size : Int)
                        · rw [if_pos c43] at H
                          have c43b0 := eq_true c43
                          have c43b1 : decide (x1_2 ≤ (a0.size : Int)) = true := decide_eq_true c43
                          clear c43
                          replace H := Option.bind_eq_some_iff.mp H
                          obtain ⟨t108, A440, H⟩ := H
                          replace H : (some (t108, true, x1_2)) = some (r1, r2, r3) := H
                          have A44 := Aside0.mk A440
                          clear A440
                          simp only [Option.some.injEq, Prod.mk.injEq] at H
                          obtain ⟨rfl, rfl, rfl⟩ := H
                          have p37 : 0 ≤ (x1_2 : Int) := of_decide_eq_true (by first | (with_reducible assumption) | assumption)
                          have q37 : x1_2 < (a0.size : Int) := of_decide_eq_true (by first | (with_reducible assumption) | assumption)
                          have hx37 := bt_at a0 x1_2
                          replace p37 := eq_true p37
                          replace q37 := eq_true q37
                          go_wp2_with (first | (go_at_call 64; (with_reducible refine (spec_l1Digit.calls (bt a0 x1_2) false _ A38.out).mono ?_); rintro e w' ⟨rfl, ⟨nd, rfl⟩⟩) | ((with_reducible refine gate_callee (f := 39) rfl ?_); refine goesL_ (some 100) rfl rfl Tryd.func39 (by kernel_rfl) rfl #[.string (a0.extract (a1 : Int).toNat (x1_2 : Int).toNat)] rfl (by (try simp only [List.map_toArray, List.map_cons, List.map_nil]); first | done | rfl | (simp only [List.length_drop, List.length_take]; rfl)) ?_; (with_reducible refine (spec_l2Number.calls k2 (a0.extract (a1 : Int).toNat (x1_2 : Int).toNat) t108 _ A44.out).mono ?_); rintro e w' ⟨rfl, ⟨nd, rfl⟩⟩; refine ⟨_, rfl, ?_⟩))
                          go_ret3
                          exact ⟨by first | rfl | (simp; done) | (simp [*]; done), by repeat (first | exact Drawn0.refl _ | apply Drawn0.step)⟩
                        · rw [if_neg c43] at H
                          exact absurd H (by simp)
                      · rw [if_neg c42] at H
                        exact absurd H (by simp)
                    · rw [if_neg c41] at H
                      exact absurd H (by simp)
              · rw [if_neg c36] at H
                exact absurd H (by simp)
            · rw [if_neg c35] at H
              have c35b0 : decide (x1_2 < (a0.size : Int)) = false := decide_eq_false c35
              clear c35
              by_cases c45 : x1_2 = a1
              · rw [if_pos c45] at H
                have c45b0 : (x1_2 == a1) = true := beq_iff_eq.mpr c45
                have c45b1 : (x1_2 != a1) = false := bne_eq_false_iff_eq.mpr c45
                clear c45
                simp only [Option.some.injEq, Prod.mk.injEq] at H
                obtain ⟨rfl, rfl, rfl⟩ := H
                go_wp2
                go_ret3
                exact ⟨by first | rfl | (simp; done) | (simp [*]; done), by repeat (first | exact Drawn0.refl _ | apply Drawn0.step)⟩
              · rw [if_neg c45] at H
                have c45b0 : (x1_2 == a1) = false := beq_eq_false_iff_ne.mpr c45
                have c45b1 : (x1_2 != a1) = true := bne_iff_ne.mpr c45
                by_cases c46 : 0 ≤ a1
                · rw [if_pos c46] at H
                  have c46b0 := eq_true c46
                  have c46b1 : decide (0 ≤ a1) = true := decide_eq_true c46
                  clear c46
                  by_cases c47 : a1 ≤ x1_2
                  · rw [if_pos c47] at H
                    have c47b0 := eq_true c47
                    have c47b1 : decide (a1 ≤ x1_2) = true := decide_eq_true c47
                    clear c47
                    by_cases c48 : x1_2 ≤ (a0.size : Int)
                    · rw [if_pos c48] at H
                      have c48b0 := eq_true c48
                      have c48b1 : decide (x1_2 ≤ (a0.size : Int)) = true := decide_eq_true c48
                      clear c48
                      replace H := Option.bind_eq_some_iff.mp H
                      obtain ⟨t109, A490, H⟩ := H
                      replace H : (some (t109, true, x1_2)) = some (r1, r2, r3) := H
                      have A49 := Aside0.mk A490
                      clear A490
                      simp only [Option.some.injEq, Prod.mk.injEq] at H
                      obtain ⟨rfl, rfl, rfl⟩ := H
                      go_wp2_with (first | ((with_reducible refine gate_callee (f := 39) rfl ?_); refine goesL_ (some 100) rfl rfl Tryd.func39 (by kernel_rfl) rfl #[.string (a0.extract (a1 : Int).toNat (x1_2 : Int).toNat)] rfl (by (try simp only [List.map_toArray, List.map_cons, List.map_nil]); first | done | rfl | (simp only [List.length_drop, List.length_take]; rfl)) ?_; (with_reducible refine (spec_l2Number.calls k2 (a0.extract (a1 : Int).toNat (x1_2 : Int).toNat) t109 _ A49.out).mono ?_); rintro e w' ⟨rfl, ⟨nd, rfl⟩⟩; refine ⟨_, rfl, ?_⟩))
                      go_ret3
                      exact ⟨by first | rfl | (simp; done) | (simp [*]; done), by repeat (first | exact Drawn0.refl _ | apply Drawn0.step)⟩
                    · rw [if_neg c48] at H
                      exact absurd H (by simp)
                  · rw [if_neg c47] at H
                    exact absurd H (by simp)
                · rw [if_neg c46] at H
                  exact absurd H (by simp)

end Go.Proofs.YtghglglbajnncaaDoor.PFnExactReadRefBy
