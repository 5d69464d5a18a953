/- Functions of the program as Lean functions, and proofs that the Go code comes to their answers: for the law FnExactReadDate; made out of the print by a program of mine (doorprint.py), with walks of my own in the place of some functions. No conditions but each theorem's own. -/
import Derived.Test.YtghglglbajnncaaDoorMFnExactReadDatea0
import Derived.Test.YtghglglbajnncaaDoorMFnExactReadDatea1
import Derived.Test.YtghglglbajnncaaDoorMFnExactReadDatea3
import Derived.Test.YtghglglbajnncaaDoorMFnExactReadDatea6
namespace Go.Proofs.YtghglglbajnncaaDoor.PFnExactReadDate
open Go.RowKit Go.Proofs.YtghglglbajnncaaDoorW.PrintWords Go.Proofs.YtghglglbajnncaaDoorW.PrintLast Go.Proofs.YtghglglbajnncaaDoorW.PrintMore
attribute [local go_sem] max2_int min2_int max_two min_two max_three min_three max_four min_four   -- for this text's walks alone
set_option linter.unusedVariables false
set_option linter.unusedSimpArgs false

/-! ### spec_ReadDate: function 17 -/
mutual
def spec_ReadDate.j0 : Nat → Int → ByteArray → Int → Bool → Option (Int × Bool)
  | 0, _, _, _, _ => none
  | k + 1, x0, x1, x6, x27 => if x27 = true then (some (0, false)) else (if 0 ≤ (wrap64 (x6 - 6)) then (if (wrap64 (x6 - 6)) ≤ (x1.size : Int) then (if 0 < ((x1.extract 0 ((wrap64 (x6 - 6)) : Int).toNat).size : Int) then (if (bt (x1.extract 0 ((wrap64 (x6 - 6)) : Int).toNat) 0) = 45 then (if 1 ≤ ((x1.extract 0 ((wrap64 (x6 - 6)) : Int).toNat).size : Int) then (spec_ReadDate.j1 k x0 x1 x6 ((x1.extract 0 ((wrap64 (x6 - 6)) : Int).toNat).extract 1 (x1.extract 0 ((wrap64 (x6 - 6)) : Int).toNat).size) ((bt (x1.extract 0 ((wrap64 (x6 - 6)) : Int).toNat) 0) == 45)) else (none)) else (spec_ReadDate.j1 k x0 x1 x6 (x1.extract 0 ((wrap64 (x6 - 6)) : Int).toNat) ((bt (x1.extract 0 ((wrap64 (x6 - 6)) : Int).toNat) 0) == 45))) else (none)) else (none)) else (none))
def spec_ReadDate.j1 : Nat → Int → ByteArray → Int → ByteArray → Bool → Option (Int × Bool)
  | 0, _, _, _, _, _ => none
  | k + 1, x0, x1, x6, x7, x8 => (spec_l2Number.f k x7).bind fun t233 => (if 0 ≤ (wrap64 (x6 - 5)) then (if (wrap64 (x6 - 5)) ≤ (wrap64 (x6 - 3)) then (if (wrap64 (x6 - 3)) ≤ (x1.size : Int) then ((spec_l2Number.f k (x1.extract ((wrap64 (x6 - 5)) : Int).toNat ((wrap64 (x6 - 3)) : Int).toNat)).bind fun t234 => (if 0 ≤ (wrap64 (x6 - 2)) then (if (wrap64 (x6 - 2)) ≤ (x1.size : Int) then ((spec_l2Number.f k (x1.extract ((wrap64 (x6 - 2)) : Int).toNat x1.size)).bind fun t235 => (if x8 = true then (spec_ReadDate.j2 k x0 x1 (wrap64 (-t233)) t234 t235) else (spec_ReadDate.j2 k x0 x1 t233 t234 t235))) else (none)) else (none))) else (none)) else (none)) else (none))
def spec_ReadDate.j2 : Nat → Int → ByteArray → Int → Int → Int → Option (Int × Bool)
  | 0, _, _, _, _, _ => none
  | k + 1, x0, x1, x237000, x237001, x237002 => (spec_DateText.f k x237000 x237001 x237002).bind fun t237 => (if t237.toList = x1.toList then ((spec_DayOf.f k x0 x237000 x237001 x237002).bind fun bt238 => (some (bt238.1, bt238.2))) else (some (0, false)))
end
def spec_ReadDate.f (k : Nat) (a0 : Int) (a1 : ByteArray) : Option (Int × Bool) := if (a1.size : Int) < 10 then (spec_ReadDate.j0 k a0 a1 (a1.size : Int) true) else (if 0 ≤ (wrap64 ((a1.size : Int) - 3)) then (if (wrap64 ((a1.size : Int) - 3)) < (a1.size : Int) then (if (bt a1 (wrap64 ((a1.size : Int) - 3))) = 45 then (if 0 ≤ (wrap64 ((a1.size : Int) - 6)) then (if (wrap64 ((a1.size : Int) - 6)) < (a1.size : Int) then (spec_ReadDate.j0 k a0 a1 (a1.size : Int) ((bt a1 (wrap64 ((a1.size : Int) - 6))) != 45)) else (none)) else (none)) else (spec_ReadDate.j0 k a0 a1 (a1.size : Int) true)) else (none)) else (none))
theorem spec_ReadDate.mono_l : ∀ k, (∀ y0 y1 y2 y3, LeO (spec_ReadDate.j0 k y0 y1 y2 y3) (spec_ReadDate.j0 (k + 1) y0 y1 y2 y3)) ∧ (∀ y0 y1 y2 y3 y4, LeO (spec_ReadDate.j1 k y0 y1 y2 y3 y4) (spec_ReadDate.j1 (k + 1) y0 y1 y2 y3 y4)) ∧ (∀ y0 y1 y2 y3 y4, LeO (spec_ReadDate.j2 k y0 y1 y2 y3 y4) (spec_ReadDate.j2 (k + 1) y0 y1 y2 y3 y4))
  | 0 => ⟨fun _ _ _ _ r h => by simp [spec_ReadDate.j0] at h, fun _ _ _ _ _ r h => by simp [spec_ReadDate.j1] at h, fun _ _ _ _ _ r h => by simp [spec_ReadDate.j2] at h⟩
  | k + 1 => by
    obtain ⟨ih0, ih1, ih2⟩ := spec_ReadDate.mono_l k
    refine ⟨?_, ?_, ?_⟩
    · intro y0 y1 y2 y3
      unfold spec_ReadDate.j0
      repeat' first
      | (with_reducible exact ih0 _ _ _ _)
      | (with_reducible exact ih1 _ _ _ _ _)
      | (with_reducible exact ih2 _ _ _ _ _)
      | (with_reducible exact spec_DateText.mono _ _ _ _)
      | (with_reducible exact spec_DayOf.mono _ _ _ _ _)
      | (with_reducible exact spec_l2Number.mono _ _)
      | (with_reducible exact LeO.refl _)
      | (with_reducible exact LeO.none _)
      | (with_reducible refine LeO.ite ?_ ?_)
      | (with_reducible refine LeO.bind ?_ (fun _ => ?_))
      | exact ih0 _ _ _ _
      | exact ih1 _ _ _ _ _
      | exact ih2 _ _ _ _ _
      | exact spec_DateText.mono _ _ _ _
      | exact spec_DayOf.mono _ _ _ _ _
      | exact spec_l2Number.mono _ _
      | exact LeO.none _
      | refine LeO.ite ?_ ?_
      | refine LeO.bind ?_ (fun _ => ?_)
    · intro y0 y1 y2 y3 y4
      unfold spec_ReadDate.j1
      repeat' first
      | (with_reducible exact ih0 _ _ _ _)
      | (with_reducible exact ih1 _ _ _ _ _)
      | (with_reducible exact ih2 _ _ _ _ _)
      | (with_reducible exact spec_DateText.mono _ _ _ _)
      | (with_reducible exact spec_DayOf.mono _ _ _ _ _)
      | (with_reducible exact spec_l2Number.mono _ _)
      | (with_reducible exact LeO.refl _)
      | (with_reducible exact LeO.none _)
      | (with_reducible refine LeO.ite ?_ ?_)
      | (with_reducible refine LeO.bind ?_ (fun _ => ?_))
      | exact ih0 _ _ _ _
      | exact ih1 _ _ _ _ _
      | exact ih2 _ _ _ _ _
      | exact spec_DateText.mono _ _ _ _
      | exact spec_DayOf.mono _ _ _ _ _
      | exact spec_l2Number.mono _ _
      | exact LeO.none _
      | refine LeO.ite ?_ ?_
      | refine LeO.bind ?_ (fun _ => ?_)
    · intro y0 y1 y2 y3 y4
      unfold spec_ReadDate.j2
      repeat' first
      | (with_reducible exact ih0 _ _ _ _)
      | (with_reducible exact ih1 _ _ _ _ _)
      | (with_reducible exact ih2 _ _ _ _ _)
      | (with_reducible exact spec_DateText.mono _ _ _ _)
      | (with_reducible exact spec_DayOf.mono _ _ _ _ _)
      | (with_reducible exact spec_l2Number.mono _ _)
      | (with_reducible exact LeO.refl _)
      | (with_reducible exact LeO.none _)
      | (with_reducible refine LeO.ite ?_ ?_)
      | (with_reducible refine LeO.bind ?_ (fun _ => ?_))
      | exact ih0 _ _ _ _
      | exact ih1 _ _ _ _ _
      | exact ih2 _ _ _ _ _
      | exact spec_DateText.mono _ _ _ _
      | exact spec_DayOf.mono _ _ _ _ _
      | exact spec_l2Number.mono _ _
      | exact LeO.none _
      | refine LeO.ite ?_ ?_
      | refine LeO.bind ?_ (fun _ => ?_)
theorem spec_ReadDate.mono : ∀ a0 a1 k, LeO (spec_ReadDate.f k a0 a1) (spec_ReadDate.f (k + 1) a0 a1) := by
  intro a0 a1 k
  obtain ⟨ih0, ih1, ih2⟩ := spec_ReadDate.mono_l k
  unfold spec_ReadDate.f
  repeat' first
      | (with_reducible exact ih0 _ _ _ _)
      | (with_reducible exact ih1 _ _ _ _ _)
      | (with_reducible exact ih2 _ _ _ _ _)
      | (with_reducible exact spec_DateText.mono _ _ _ _)
      | (with_reducible exact spec_DayOf.mono _ _ _ _ _)
      | (with_reducible exact spec_l2Number.mono _ _)
      | (with_reducible exact LeO.refl _)
      | (with_reducible exact LeO.none _)
      | (with_reducible refine LeO.ite ?_ ?_)
      | (with_reducible refine LeO.bind ?_ (fun _ => ?_))
      | exact ih0 _ _ _ _
      | exact ih1 _ _ _ _ _
      | exact ih2 _ _ _ _ _
      | exact spec_DateText.mono _ _ _ _
      | exact spec_DayOf.mono _ _ _ _ _
      | exact spec_l2Number.mono _ _
      | exact LeO.none _
      | refine LeO.ite ?_ ?_
      | refine LeO.bind ?_ (fun _ => ?_)
def spec_ReadDate.T8 : Bool × List (List Nat × List Nat) := (true, [([], []), ([0], [0]), ([], []), ([], []), ([3], [3]), ([], []), ([5], [5]), ([2, 4, 6], [2, 4, 6]), ([7, 1], [7]), ([], []), ([], []), ([10], [10]), ([9, 11], [9, 11]), ([12, 8], [12]), ([1, 8, 13], [1, 8, 13]), ([], []), ([15, 14, 13, 0, 1, 2, 3, 4, 5, 6, 7, 8, 9, 10, 11, 12, 13, 14, 15], [14, 15])])
def spec_ReadDate.B8 : List Nat := [0, 1, 0, 0, 8, 0, 32, 124, 255, 0, 0, 1024, 3584, 8191, 16383, 0, 65535]
theorem spec_ReadDate.tab8 : rtab .any (opsOf Tryd.f17 8) = spec_ReadDate.T8 := by kernel_rfl
theorem spec_ReadDate.bits8 : waitsOk spec_ReadDate.T8.2 spec_ReadDate.B8 = true := by kernel_rfl
set_option maxHeartbeats 8000000 in
set_option maxRecDepth 100000 in
theorem spec_ReadDate.calls (k : Nat) (a0 : Int) (a1 : ByteArray) (r1 : Int) (r2 : Bool) (w : World) (h : spec_ReadDate.f k a0 a1 = some (r1, r2)) :
    Calls Tryd.prog 17 #[.int .i64 a0, .string a1] w fun e w' => e = .returned (.tuple #[.int .i64 r1, .bool r2]) ∧ Below w.heap.size w w' := by
  have hu65 := Tryd.underlying65
  have HB := Aside0.mk (Below.refl w.heap.size w)
  have H : (if (a1.size : Int) < 10 then (spec_ReadDate.j0 k a0 a1 (a1.size : Int) true) else (if 0 ≤ (wrap64 ((a1.size : Int) - 3)) then (if (wrap64 ((a1.size : Int) - 3)) < (a1.size : Int) then (if (bt a1 (wrap64 ((a1.size : Int) - 3))) = 45 then (if 0 ≤ (wrap64 ((a1.size : Int) - 6)) then (if (wrap64 ((a1.size : Int) - 6)) < (a1.size : Int) then (spec_ReadDate.j0 k a0 a1 (a1.size : Int) ((bt a1 (wrap64 ((a1.size : Int) - 6))) != 45)) else (none)) else (none)) else (spec_ReadDate.j0 k a0 a1 (a1.size : Int) true)) else (none)) else (none))) = some (r1, r2) := h
  clear h
  have HC3 := Aside0.mk H
  clear H
  go_enter Tryd.func17, Tryd.ntmps17
  go_upto_region 2 with (fail)
  go_cut [27] (fun v27 wc => ∃ (kq : Nat) (x27_2 : Bool), v27 = .bool x27_2 ∧ Aside0 (spec_ReadDate.j0 kq a0 a1 (a1.size : Int) x27_2 = some (r1, r2)) ∧ Aside0 (kq ≤ k) ∧ Aside0 (Below w.heap.size w wc))
  case first =>
    have H := HC3.out
    clear HC3
    by_cases c4 : (a1.size : Int) < 10
    · rw [if_pos c4] at H
      have c4b0 : decide ((a1.size : Int) < 10) = true := decide_eq_true c4
      have c4b1 : decide (a1.size < 10) = true := decide_eq_true (by omega)
      clear c4
      (first | rw [c4b0] | (simp only [i64_w, i32_w]; rw [c4b0]) | skip)
      have H' := Aside0.mk H
      clear H
      go_wp2
      go_meet
      case rel => exact ⟨_, (true), (by first | rfl | (simp; done) | (simp [*]; done) | (simp; unfold wrap64; omega)), H', ⟨by first | omega | exact Nat.le_refl _⟩, ⟨by repeat (first | (with_reducible first | exact HB.out | apply below_alloc | apply pw_below_drewN | apply below_drew1) | exact HB.out)⟩⟩
    · rw [if_neg c4] at H
      have c4b0 : decide ((a1.size : Int) < 10) = false := decide_eq_false c4
      have c4b1 : decide (a1.size < 10) = false := decide_eq_false (by omega)
      clear c4
      (first | rw [c4b0] | (simp only [i64_w, i32_w]; rw [c4b0]) | skip)
      obtain ⟨ji5, hji5⟩ : ∃ j_ : Int, (wrap64 ((a1.size : Int) - 3)) = j_ := ⟨_, rfl⟩
      replace H : (if 0 ≤ (ji5) then (if (ji5) < (a1.size : Int) then (if (bt a1 (ji5)) = 45 then (if 0 ≤ (wrap64 ((a1.size : Int) - 6)) then (if (wrap64 ((a1.size : Int) - 6)) < (a1.size : Int) then (spec_ReadDate.j0 k a0 a1 (a1.size : Int) ((bt a1 (wrap64 ((a1.size : Int) - 6))) != 45)) else (none)) else (none)) else (spec_ReadDate.j0 k a0 a1 (a1.size : Int) true)) else (none)) else (none)) = some (r1, r2) := by first | (rw [hji5] at H; exact H) | (simp only [hji5] at H ⊢; exact H)
      have hji5w : (IntKind.i64.wrap ((a1.size : Int) - 3)) = ji5 := (i64_w _).trans hji5
      by_cases c6 : 0 ≤ (ji5)
      · rw [if_pos c6] at H
        have c6b0 : decide (0 ≤ (ji5)) = true := decide_eq_true c6
        clear c6
        by_cases c7 : (ji5) < (a1.size : Int)
        · rw [if_pos c7] at H
          have c7b0 : decide ((ji5) < (a1.size : Int)) = true := decide_eq_true c7
          clear c7
          by_cases c9 : (bt a1 (ji5)) = 45
          · rw [if_pos c9] at H
            have c9b0 : ((bt a1 (ji5)) == 45) = true := beq_iff_eq.mpr c9
            have c9b1 : ((bt a1 (ji5)) != 45) = false := bne_eq_false_iff_eq.mpr c9
            clear c9
            obtain ⟨ji10, hji10⟩ : ∃ j_ : Int, (wrap64 ((a1.size : Int) - 6)) = j_ := ⟨_, rfl⟩
            replace H : (if 0 ≤ (ji10) then (if (ji10) < (a1.size : Int) then (spec_ReadDate.j0 k a0 a1 (a1.size : Int) ((bt a1 (ji10)) != 45)) else (none)) else (none)) = some (r1, r2) := by first | (rw [hji10] at H; exact H) | (simp only [hji10] at H ⊢; exact H)
            have hji10w : (IntKind.i64.wrap ((a1.size : Int) - 6)) = ji10 := (i64_w _).trans hji10
            by_cases c11 : 0 ≤ (ji10)
            · rw [if_pos c11] at H
              have c11b0 : decide (0 ≤ (ji10)) = true := decide_eq_true c11
              clear c11
              by_cases c12 : (ji10) < (a1.size : Int)
              · rw [if_pos c12] at H
                have c12b0 : decide ((ji10) < (a1.size : Int)) = true := decide_eq_true c12
                clear c12
                have H' := Aside0.mk H
                clear H
                have p8 : 0 ≤ ((ji5) : Int) := of_decide_eq_true (by first | (with_reducible assumption) | assumption)
                have q8 : (ji5) < (a1.size : Int) := of_decide_eq_true (by first | (with_reducible assumption) | assumption)
                have hx8 := bt_at a1 (ji5)
                replace p8 := eq_true p8
                replace q8 := eq_true q8
                have p13 : 0 ≤ ((ji10) : Int) := of_decide_eq_true (by first | (with_reducible assumption) | assumption)
                have q13 : (ji10) < (a1.size : Int) := of_decide_eq_true (by first | (with_reducible assumption) | assumption)
                have hx13 := bt_at a1 (ji10)
                replace p13 := eq_true p13
                replace q13 := eq_true q13
                go_wp2
                go_meet
                case rel => exact ⟨_, (((bt a1 (ji10)) != 45)), (by first | rfl | (simp; done) | (simp only [← hji10] <;> (first | rfl | simp)) | (simp [*]; done)), (by first | exact H' | exact ⟨by (try rw [hji5]); (try rw [hji10]); exact H'.out⟩), ⟨by first | omega | exact Nat.le_refl _⟩, ⟨by repeat (first | (with_reducible first | exact HB.out | apply below_alloc | apply pw_below_drewN | apply below_drew1) | exact HB.out)⟩⟩
              · rw [if_neg c12] at H
                exact absurd H (by simp)
            · rw [if_neg c11] at H
              exact absurd H (by simp)
          · rw [if_neg c9] at H
            have c9b0 : ((bt a1 (ji5)) == 45) = false := beq_eq_false_iff_ne.mpr c9
            have c9b1 : ((bt a1 (ji5)) != 45) = true := bne_iff_ne.mpr c9
            have H' := Aside0.mk H
            clear H
            have p8 : 0 ≤ ((ji5) : Int) := of_decide_eq_true (by first | (with_reducible assumption) | assumption)
            have q8 : (ji5) < (a1.size : Int) := of_decide_eq_true (by first | (with_reducible assumption) | assumption)
            have hx8 := bt_at a1 (ji5)
            replace p8 := eq_true p8
            replace q8 := eq_true q8
            go_wp2
            go_meet
            case rel => exact ⟨_, (true), (by first | rfl | (simp; done) | (simp [*]; done) | (simp; unfold wrap64; omega)), (by first | exact H' | exact ⟨by (try rw [hji5]); exact H'.out⟩), ⟨by first | omega | exact Nat.le_refl _⟩, ⟨by repeat (first | (with_reducible first | exact HB.out | apply below_alloc | apply pw_below_drewN | apply below_drew1) | exact HB.out)⟩⟩
        · rw [if_neg c7] at H
          exact absurd H (by simp)
      · rw [if_neg c6] at H
        exact absurd H (by simp)
  case rest =>
    clear HC3
    try clear c1
    try clear p1
    try clear q1
    try clear hx1
    try clear p2
    try clear c4
    try clear c4b0
    try clear c4b1
    try clear c6
    try clear c6b0
    try clear p6
    try clear c7
    try clear c7b0
    try clear p8
    try clear q8
    try clear hx8
    try clear c9
    try clear c9b0
    try clear c9b1
    try clear c11
    try clear c11b0
    try clear c12
    try clear c12b0
    try clear p13
    try clear q13
    try clear hx13
    try clear p13
    try clear p8
    try clear q13
    try clear q8
    obtain ⟨kq, x27_2, rfl, HA, HJ2, HB⟩ := hcut
    cases kq with
    | zero => exact absurd HA.out (by simp [spec_ReadDate.j0])
    | succ kj2 =>
      have H := HA.out
      clear HA
      simp only [spec_ReadDate.j0] at H
      by_cases c14 : x27_2 = true
      · subst c14
        have H1 : (some (0, false)) = some (r1, r2) := by rw [if_pos rfl] at H; exact H
        clear H
        have H := H1
        clear H1
        simp only [Option.some.injEq, Prod.mk.injEq] at H
        obtain ⟨rfl, rfl⟩ := H
        go_wp2
        go_ret2
        exact ⟨by first | rfl | (simp [errW_none, errW_some] <;> rfl) | (simp [*, errW_none, errW_some] <;> rfl), by repeat (first | (with_reducible first | exact HB.out | apply below_alloc | apply pw_below_drewN | apply below_drew1) | exact HB.out)⟩
      · replace c14 := Bool.eq_false_iff.mpr c14
        subst c14
        have H1 : (if 0 ≤ (wrap64 ((a1.size : Int) - 6)) then (if (wrap64 ((a1.size : Int) - 6)) ≤ (a1.size : Int) then (if 0 < ((a1.extract 0 ((wrap64 ((a1.size : Int) - 6)) : Int).toNat).size : Int) then (if (bt (a1.extract 0 ((wrap64 ((a1.size : Int) - 6)) : Int).toNat) 0) = 45 then (if 1 ≤ ((a1.extract 0 ((wrap64 ((a1.size : Int) - 6)) : Int).toNat).size : Int) then (spec_ReadDate.j1 kj2 a0 a1 (a1.size : Int) ((a1.extract 0 ((wrap64 ((a1.size : Int) - 6)) : Int).toNat).extract 1 (a1.extract 0 ((wrap64 ((a1.size : Int) - 6)) : Int).toNat).size) ((bt (a1.extract 0 ((wrap64 ((a1.size : Int) - 6)) : Int).toNat) 0) == 45)) else (none)) else (spec_ReadDate.j1 kj2 a0 a1 (a1.size : Int) (a1.extract 0 ((wrap64 ((a1.size : Int) - 6)) : Int).toNat) ((bt (a1.extract 0 ((wrap64 ((a1.size : Int) - 6)) : Int).toNat) 0) == 45))) else (none)) else (none)) else (none)) = some (r1, r2) := by rw [if_neg (show ¬ (false = true) by decide)] at H; exact H
        clear H
        have H := H1
        clear H1
        obtain ⟨ji15, hji15⟩ : ∃ j_ : Int, (wrap64 ((a1.size : Int) - 6)) = j_ := ⟨_, rfl⟩
        replace H : (if 0 ≤ (ji15) then (if (ji15) ≤ (a1.size : Int) then (if 0 < ((a1.extract 0 ((ji15) : Int).toNat).size : Int) then (if (bt (a1.extract 0 ((ji15) : Int).toNat) 0) = 45 then (if 1 ≤ ((a1.extract 0 ((ji15) : Int).toNat).size : Int) then (spec_ReadDate.j1 kj2 a0 a1 (a1.size : Int) ((a1.extract 0 ((ji15) : Int).toNat).extract 1 (a1.extract 0 ((ji15) : Int).toNat).size) ((bt (a1.extract 0 ((ji15) : Int).toNat) 0) == 45)) else (none)) else (spec_ReadDate.j1 kj2 a0 a1 (a1.size : Int) (a1.extract 0 ((ji15) : Int).toNat) ((bt (a1.extract 0 ((ji15) : Int).toNat) 0) == 45))) else (none)) else (none)) else (none)) = some (r1, r2) := by first | (rw [hji15] at H; exact H) | (simp only [hji15] at H ⊢; exact H)
        have hji15w : (IntKind.i64.wrap ((a1.size : Int) - 6)) = ji15 := (i64_w _).trans hji15
        by_cases c16 : 0 ≤ (ji15)
        · rw [if_pos c16] at H
          have c16b0 := eq_true c16
          have c16b1 : decide (0 ≤ (ji15)) = true := decide_eq_true c16
          clear c16
          by_cases c17 : (ji15) ≤ (a1.size : Int)
          · rw [if_pos c17] at H
            have c17b0 := eq_true c17
            have c17b1 : decide ((ji15) ≤ (a1.size : Int)) = true := decide_eq_true c17
            clear c17
            by_cases c18 : 0 < ((a1.extract 0 ((ji15) : Int).toNat).size : Int)
            · rw [if_pos c18] at H
              have c18b0 : decide (0 < ((a1.extract 0 ((ji15) : Int).toNat).size : Int)) = true := decide_eq_true c18
              (try (have c18b0z : (0 < max (ji15) 0) = True := by (have q1_ : (ji15) ≤ (a1.size : Int) := of_decide_eq_true (by first | (with_reducible assumption) | assumption)); have e_ : ((a1.extract 0 ((ji15) : Int).toNat).size : Int) = max (ji15) 0 := (by rw [ByteArray.size_extract]; omega); have d_ := of_decide_eq_true c18b0; rw [e_] at d_; exact eq_true d_))
              have c18b1 : decide (0 < (a1.extract 0 ((ji15) : Int).toNat).size) = true := decide_eq_true (by omega)
              (try (have c18b06 := c18b0; simp only [ByteArray.size_extract, Nat.min_self, Nat.sub_zero] at c18b06))
              (try (have c18b16 := c18b1; simp only [ByteArray.size_extract, Nat.min_self, Nat.sub_zero] at c18b16))
              clear c18
              obtain ⟨nb_, hnb_⟩ : ∃ b_ : Bool, ((bt (a1.extract 0 ((ji15) : Int).toNat) 0) == 45) = b_ := ⟨_, rfl⟩
              rw [hnb_] at H
              have HC20 := Aside0.mk H
              clear H
              have p19 : 0 ≤ (0 : Int) := (by omega)
              have q19 : 0 < (a1.extract 0 ((ji15) : Int).toNat).size := (by have : (0 : Int) < ((a1.extract 0 ((ji15) : Int).toNat).size : Int) := of_decide_eq_true (by first | (with_reducible assumption) | assumption); omega)
              have hx19 : ∀ h : 0 < (a1.extract 0 ((ji15) : Int).toNat).size, (((a1.extract 0 ((ji15) : Int).toNat)[0]'h).toNat : Int) = bt (a1.extract 0 ((ji15) : Int).toNat) 0 := bt_at (a1.extract 0 ((ji15) : Int).toNat) 0
              clear p19
              have qi19 : (0 < ((a1.extract 0 ((ji15) : Int).toNat).size : Int)) = True := eq_true (of_decide_eq_true (by first | (with_reducible assumption) | assumption))
              replace q19 := eq_true q19
              go_upto_if 35 with (fail)
              go_cut [7] (fun v7 wc => ∃ (kq : Nat) (x7_19 : ByteArray), v7 = .string x7_19 ∧ Aside0 (spec_ReadDate.j1 kq a0 a1 (a1.size : Int) x7_19 nb_ = some (r1, r2)) ∧ Aside0 (kq ≤ kj2) ∧ Aside0 (Below w.heap.size w wc))
              case first =>
                have H := HC20.out
                clear HC20
                by_cases c21 : (bt (a1.extract 0 ((ji15) : Int).toNat) 0) = 45
                · rw [if_pos c21] at H
                  obtain rfl : nb_ = true := hnb_.symm.trans (beq_iff_eq.mpr c21)
                  have c21b0 : ((bt (a1.extract 0 ((ji15) : Int).toNat) 0) == 45) = true := beq_iff_eq.mpr c21
                  have c21b1 : ((bt (a1.extract 0 ((ji15) : Int).toNat) 0) != 45) = false := bne_eq_false_iff_eq.mpr c21
                  clear c21
                  by_cases c22 : 1 ≤ ((a1.extract 0 ((ji15) : Int).toNat).size : Int)
                  · rw [if_pos c22] at H
                    have c22b0 := eq_true c22
                    have c22b1 : decide (1 ≤ ((a1.extract 0 ((ji15) : Int).toNat).size : Int)) = true := decide_eq_true c22
                    (try (have c22b1z : (1 ≤ max (ji15) 0) = True := by (have q1_ : (ji15) ≤ (a1.size : Int) := of_decide_eq_true (by first | (with_reducible assumption) | assumption)); have e_ : ((a1.extract 0 ((ji15) : Int).toNat).size : Int) = max (ji15) 0 := (by rw [ByteArray.size_extract]; omega); have d_ := of_decide_eq_true c22b1; rw [e_] at d_; exact eq_true d_))
                    (try (have c22b06 := c22b0; simp only [ByteArray.size_extract, Nat.min_self, Nat.sub_zero] at c22b06))
                    (try (have c22b16 := c22b1; simp only [ByteArray.size_extract, Nat.min_self, Nat.sub_zero] at c22b16))
                    clear c22
                    have H' := Aside0.mk H
                    clear H
                    go_wp2
                    go_meet
                    case rel => exact ⟨_, ((a1.extract 0 ((ji15) : Int).toNat).extract 1 (a1.extract 0 ((ji15) : Int).toNat).size), (by first | rfl | (have q_ : ji15 ≤ (a1.size : Int) := of_decide_eq_true (by assumption); have e_ : (a1.extract 0 (ji15 : Int).toNat).size = (ji15 : Int).toNat := (by rw [ByteArray.size_extract]; omega); rw [e_]) | (simp; done) | (simp only [← hji15] <;> (first | rfl | simp)) | (simp [*]; done)), (by first | exact H' | exact ⟨by (try rw [hji15]); exact H'.out⟩), ⟨by have := HJ2.out; first | omega | exact Nat.le_refl _⟩, ⟨by repeat (first | (with_reducible first | exact HB.out | apply below_alloc | apply pw_below_drewN | apply below_drew1) | exact HB.out)⟩⟩
                  · rw [if_neg c22] at H
                    exact absurd H (by simp)
                · rw [if_neg c21] at H
                  obtain rfl : nb_ = false := hnb_.symm.trans (beq_eq_false_iff_ne.mpr c21)
                  have c21b0 : ((bt (a1.extract 0 ((ji15) : Int).toNat) 0) == 45) = false := beq_eq_false_iff_ne.mpr c21
                  have c21b1 : ((bt (a1.extract 0 ((ji15) : Int).toNat) 0) != 45) = true := bne_iff_ne.mpr c21
                  have H' := Aside0.mk H
                  clear H
                  go_wp2
                  go_meet
                  case rel => exact ⟨_, (a1.extract 0 ((ji15) : Int).toNat), (by first | rfl | (simp; done) | (simp only [← hji15] <;> (first | rfl | simp)) | (simp [*]; done)), (by first | exact H' | exact ⟨by (try rw [hji15]); exact H'.out⟩), ⟨by have := HJ2.out; first | omega | exact Nat.le_refl _⟩, ⟨by repeat (first | (with_reducible first | exact HB.out | apply below_alloc | apply pw_below_drewN | apply below_drew1) | exact HB.out)⟩⟩
              case rest =>
                clear HC20
                try clear c1
                try clear p1
                try clear q1
                try clear hx1
                try clear qi1
                try clear c2
                try clear p2
                try clear c4
                try clear c4b0
                try clear c4b1
                try clear c6
                try clear c6b0
                try clear p6
                try clear c7
                try clear c7b0
                try clear p8
                try clear q8
                try clear hx8
                try clear c9
                try clear c9b0
                try clear c9b1
                try clear c11
                try clear c11b0
                try clear c12
                try clear c12b0
                try clear p13
                try clear q13
                try clear hx13
                try clear c14
                try clear c16
                try clear c16b0
                try clear c16b1
                try clear c17
                try clear c17b0
                try clear c17b1
                try clear c18
                try clear c18b0
                try clear c18b1
                try clear p19
                try clear q19
                try clear hx19
                try clear qi19
                try clear c21
                try clear c21b0
                try clear c21b1
                try clear c22
                try clear c22b0
                try clear c22b1
                try clear p1
                try clear p13
                try clear p19
                try clear p2
                try clear p6
                try clear p8
                try clear q1
                try clear q13
                try clear q19
                try clear q8
                obtain ⟨kq, x7_19, rfl, HA, HJ19, HB⟩ := hcut
                cases kq with
                | zero => exact absurd HA.out (by simp [spec_ReadDate.j1])
                | succ kj19 =>
                  have H := HA.out
                  clear HA
                  simp only [spec_ReadDate.j1] at H
                  replace H := Option.bind_eq_some_iff.mp H
                  obtain ⟨t233, A230, H⟩ := H
                  replace H : (if 0 ≤ (wrap64 ((a1.size : Int) - 5)) then (if (wrap64 ((a1.size : Int) - 5)) ≤ (wrap64 ((a1.size : Int) - 3)) then (if (wrap64 ((a1.size : Int) - 3)) ≤ (a1.size : Int) then ((spec_l2Number.f kj19 (a1.extract ((wrap64 ((a1.size : Int) - 5)) : Int).toNat ((wrap64 ((a1.size : Int) - 3)) : Int).toNat)).bind fun t234 => (if 0 ≤ (wrap64 ((a1.size : Int) - 2)) then (if (wrap64 ((a1.size : Int) - 2)) ≤ (a1.size : Int) then ((spec_l2Number.f kj19 (a1.extract ((wrap64 ((a1.size : Int) - 2)) : Int).toNat a1.size)).bind fun t235 => (if nb_ = true then (spec_ReadDate.j2 kj19 a0 a1 (wrap64 (-t233)) t234 t235) else (spec_ReadDate.j2 kj19 a0 a1 t233 t234 t235))) else (none)) else (none))) else (none)) else (none)) else (none)) = some (r1, r2) := H
                  have A23 := Aside0.mk A230
                  clear A230
                  obtain ⟨ji24, hji24⟩ : ∃ j_ : Int, (wrap64 ((a1.size : Int) - 5)) = j_ := ⟨_, rfl⟩
                  replace H : (if 0 ≤ (ji24) then (if (ji24) ≤ (wrap64 ((a1.size : Int) - 3)) then (if (wrap64 ((a1.size : Int) - 3)) ≤ (a1.size : Int) then ((spec_l2Number.f kj19 (a1.extract ((ji24) : Int).toNat ((wrap64 ((a1.size : Int) - 3)) : Int).toNat)).bind fun t234 => (if 0 ≤ (wrap64 ((a1.size : Int) - 2)) then (if (wrap64 ((a1.size : Int) - 2)) ≤ (a1.size : Int) then ((spec_l2Number.f kj19 (a1.extract ((wrap64 ((a1.size : Int) - 2)) : Int).toNat a1.size)).bind fun t235 => (if nb_ = true then (spec_ReadDate.j2 kj19 a0 a1 (wrap64 (-t233)) t234 t235) else (spec_ReadDate.j2 kj19 a0 a1 t233 t234 t235))) else (none)) else (none))) else (none)) else (none)) else (none)) = some (r1, r2) := by first | (rw [hji24] at H; exact H) | (simp only [hji24] at H ⊢; exact H)
                  (try rw [hji24] at A23)
                  have hji24w : (IntKind.i64.wrap ((a1.size : Int) - 5)) = ji24 := (i64_w _).trans hji24
                  by_cases c25 : 0 ≤ (ji24)
                  · rw [if_pos c25] at H
                    have c25b0 := eq_true c25
                    have c25b1 : decide (0 ≤ (ji24)) = true := decide_eq_true c25
                    clear c25
                    by_cases c26 : (ji24) ≤ (wrap64 ((a1.size : Int) - 3))
                    · rw [if_pos c26] at H
                      have c26b0 := eq_true c26
                      have c26b1 : decide ((ji24) ≤ (wrap64 ((a1.size : Int) - 3))) = true := decide_eq_true c26
                      clear c26
                      by_cases c27 : (wrap64 ((a1.size : Int) - 3)) ≤ (a1.size : Int)
                      · rw [if_pos c27] at H
                        have c27b0 := eq_true c27
                        have c27b1 : decide ((wrap64 ((a1.size : Int) - 3)) ≤ (a1.size : Int)) = true := decide_eq_true c27
                        clear c27
                        replace H := Option.bind_eq_some_iff.mp H
                        obtain ⟨t234, A280, H⟩ := H
                        replace H : (if 0 ≤ (wrap64 ((a1.size : Int) - 2)) then (if (wrap64 ((a1.size : Int) - 2)) ≤ (a1.size : Int) then ((spec_l2Number.f kj19 (a1.extract ((wrap64 ((a1.size : Int) - 2)) : Int).toNat a1.size)).bind fun t235 => (if nb_ = true then (spec_ReadDate.j2 kj19 a0 a1 (wrap64 (-t233)) t234 t235) else (spec_ReadDate.j2 kj19 a0 a1 t233 t234 t235))) else (none)) else (none)) = some (r1, r2) := H
                        have A28 := Aside0.mk A280
                        clear A280
                        obtain ⟨ji29, hji29⟩ : ∃ j_ : Int, (wrap64 ((a1.size : Int) - 2)) = j_ := ⟨_, rfl⟩
                        replace H : (if 0 ≤ (ji29) then (if (ji29) ≤ (a1.size : Int) then ((spec_l2Number.f kj19 (a1.extract ((ji29) : Int).toNat a1.size)).bind fun t235 => (if nb_ = true then (spec_ReadDate.j2 kj19 a0 a1 (wrap64 (-t233)) t234 t235) else (spec_ReadDate.j2 kj19 a0 a1 t233 t234 t235))) else (none)) else (none)) = some (r1, r2) := by first | (rw [hji29] at H; exact H) | (simp only [hji29] at H ⊢; exact H)
                        (try rw [hji29] at A23)
                        (try rw [hji29] at A28)
                        have hji29w : (IntKind.i64.wrap ((a1.size : Int) - 2)) = ji29 := (i64_w _).trans hji29
                        by_cases c30 : 0 ≤ (ji29)
                        · rw [if_pos c30] at H
                          have c30b0 := eq_true c30
                          have c30b1 : decide (0 ≤ (ji29)) = true := decide_eq_true c30
                          clear c30
                          by_cases c31 : (ji29) ≤ (a1.size : Int)
                          · rw [if_pos c31] at H
                            have c31b0 := eq_true c31
                            have c31b1 : decide ((ji29) ≤ (a1.size : Int)) = true := decide_eq_true c31
                            clear c31
                            replace H := Option.bind_eq_some_iff.mp H
                            obtain ⟨t235, A320, H⟩ := H
                            replace H : (if nb_ = true then (spec_ReadDate.j2 kj19 a0 a1 (wrap64 (-t233)) t234 t235) else (spec_ReadDate.j2 kj19 a0 a1 t233 t234 t235)) = some (r1, r2) := H
                            have A32 := Aside0.mk A320
                            clear A320
                            have HC33 := Aside0.mk H
                            clear H
                            try go_wp2
                            have n0_ := Aside0.mk (below_drew1 HB.out)
                            clear HB
                            have HB := n0_
                            clear n0_
                            refine start_ (n := 17) (S := fun w' => True) (ds := []) #[false, false, false, false, false, false, false, false, false, false, false, false, false, false, false, false, false] (by kernel_rfl) rfl rfl trivial (fun hHeld => ?_); refine with_tabW spec_ReadDate.tab8 spec_ReadDate.bits8 (fun HT_ HW_ => ?_)
                            generalize wc.drew = w34 at HB hHeld ⊢
                            refine pure_ (i := 0) (N := some 38) (v := ?_) (a' := ?_) #[true, false, false, false, false, false, false, false, false, false, false, false, false, false, false, false, false] rfl rfl (any_of HT_.out (by kernel_rfl)) (fun _ _ _ h => h) (Or.inl ⟨by rfl, ?_⟩) ?_ ?_
                            rotate_left
                            · intro w'
                              go_simp
                              with_reducible rfl
                            rotate_left
                            · simp only [Act.put, List.setIfInBounds_toArray, List.set_cons_zero, List.set_cons_succ, i64_w, i32_w]
                              rfl
                            refine pure_ (i := 2) (N := some 40) (v := ?_) (a' := ?_) #[true, false, true, false, false, false, false, false, false, false, false, false, false, false, false, false, false] rfl rfl (any_of HT_.out (by kernel_rfl)) (fun _ _ _ h => h) (Or.inl ⟨by rfl, ?_⟩) ?_ ?_
                            rotate_left
                            · intro w'
                              go_simp
                              with_reducible rfl
                            rotate_left
                            · simp only [Act.put, List.setIfInBounds_toArray, List.set_cons_zero, List.set_cons_succ, i64_w, i32_w]
                              rfl
                            refine pure_ (i := 3) (N := some 41) (v := ?_) (a' := ?_) #[true, false, true, true, false, false, false, false, false, false, false, false, false, false, false, false, false] rfl rfl (any_of HT_.out (by kernel_rfl)) (fun _ _ _ h => h) (Or.inl ⟨by rfl, ?_⟩) ?_ ?_
                            rotate_left
                            · intro w'
                              go_simp
                              with_reducible rfl
                            rotate_left
                            · simp only [Act.put, List.setIfInBounds_toArray, List.set_cons_zero, List.set_cons_succ, i64_w, i32_w]
                              rfl
                            refine pure_ (i := 4) (N := some 42) (v := ?_) (a' := ?_) #[true, false, true, true, true, false, false, false, false, false, false, false, false, false, false, false, false] rfl rfl (any_of HT_.out (by kernel_rfl)) (fun _ _ _ h => h) (Or.inl ⟨by rfl, ?_⟩) ?_ ?_
                            rotate_left
                            · intro w'
                              go_simp
                              with_reducible rfl
                            rotate_left
                            · simp only [Act.put, List.setIfInBounds_toArray, List.set_cons_zero, List.set_cons_succ, i64_w, i32_w]
                              rfl
                            refine pure_ (i := 5) (N := some 43) (v := ?_) (a' := ?_) #[true, false, true, true, true, true, false, false, false, false, false, false, false, false, false, false, false] rfl rfl (any_of HT_.out (by kernel_rfl)) (fun _ _ _ h => h) (Or.inl ⟨by rfl, ?_⟩) ?_ ?_
                            rotate_left
                            · intro w'
                              go_simp
                              with_reducible rfl
                            rotate_left
                            · simp only [Act.put, List.setIfInBounds_toArray, List.set_cons_zero, List.set_cons_succ, i64_w, i32_w]
                              rfl
                            refine pure_ (i := 6) (N := some 44) (v := ?_) (a' := ?_) #[true, false, true, true, true, true, true, false, false, false, false, false, false, false, false, false, false] rfl rfl (any_of HT_.out (by kernel_rfl)) (fun _ _ _ h => h) (Or.inl ⟨by rfl, ?_⟩) ?_ ?_
                            rotate_left
                            · intro w'
                              go_simp
                              with_reducible rfl
                            rotate_left
                            · simp only [Act.put, List.setIfInBounds_toArray, List.set_cons_zero, List.set_cons_succ, i64_w, i32_w]
                              rfl
                            refine pure_ (i := 7) (N := some 45) (v := ?_) (a' := ?_) #[true, false, true, true, true, true, true, true, false, false, false, false, false, false, false, false, false] rfl rfl (any_of HT_.out (by kernel_rfl)) (fun _ _ _ h => h) (Or.inl ⟨by rfl, ?_⟩) ?_ ?_
                            rotate_left
                            · intro w'
                              go_simp
                              with_reducible rfl
                            rotate_left
                            · simp only [Act.put, List.setIfInBounds_toArray, List.set_cons_zero, List.set_cons_succ, i64_w, i32_w]
                              rfl
                            refine pure_ (i := 9) (N := some 47) (v := ?_) (a' := ?_) #[true, false, true, true, true, true, true, true, false, true, false, false, false, false, false, false, false] rfl rfl (any_of HT_.out (by kernel_rfl)) (fun _ _ _ h => h) (Or.inl ⟨by rfl, ?_⟩) ?_ ?_
                            rotate_left
                            · intro w'
                              go_simp
                              with_reducible rfl
                            rotate_left
                            · simp only [Act.put, List.setIfInBounds_toArray, List.set_cons_zero, List.set_cons_succ, i64_w, i32_w]
                              rfl
                            refine pure_ (i := 10) (N := some 48) (v := ?_) (a' := ?_) #[true, false, true, true, true, true, true, true, false, true, true, false, false, false, false, false, false] rfl rfl (any_of HT_.out (by kernel_rfl)) (fun _ _ _ h => h) (Or.inl ⟨by rfl, ?_⟩) ?_ ?_
                            rotate_left
                            · intro w'
                              go_simp
                              with_reducible rfl
                            rotate_left
                            · simp only [Act.put, List.setIfInBounds_toArray, List.set_cons_zero, List.set_cons_succ, i64_w, i32_w]
                              rfl
                            refine pure_ (i := 11) (N := some 49) (v := ?_) (a' := ?_) #[true, false, true, true, true, true, true, true, false, true, true, true, false, false, false, false, false] rfl rfl (any_of HT_.out (by kernel_rfl)) (fun _ _ _ h => h) (Or.inl ⟨by rfl, ?_⟩) ?_ ?_
                            rotate_left
                            · intro w'
                              go_simp
                              with_reducible rfl
                            rotate_left
                            · simp only [Act.put, List.setIfInBounds_toArray, List.set_cons_zero, List.set_cons_succ, i64_w, i32_w]
                              rfl
                            refine pure_ (i := 12) (N := some 50) (v := ?_) (a' := ?_) #[true, false, true, true, true, true, true, true, false, true, true, true, true, false, false, false, false] rfl rfl (any_of HT_.out (by kernel_rfl)) (fun _ _ _ h => h) (Or.inl ⟨by rfl, ?_⟩) ?_ ?_
                            rotate_left
                            · intro w'
                              go_simp
                              with_reducible rfl
                            rotate_left
                            · simp only [Act.put, List.setIfInBounds_toArray, List.set_cons_zero, List.set_cons_succ, i64_w, i32_w]
                              rfl
                            refine join_ (σ := Nat) 1 #[true, true, true, true, true, true, true, true, true, true, true, true, true, true, true, true, false] (fun s_ => [(39, .int .i64 t233), (46, .int .i64 t234), (51, .int .i64 t235), (9, .pointer (some ⟨s_, 0, none⟩)), (52, .agg #[.int .i64 t233, .int .i64 t234, .int .i64 t235])]) (fun s_ w' => (w'.heap[s_]? = some (.cells #[.int .i64 0, .int .i64 0, .int .i64 0] 65 (0, 0))) ∧ (w.heap.size ≤ s_) ∧ (w.heap.size ≤ s_) ∧ (Below w.heap.size w w')) ?_ ?_
                            rotate_left
                            · intro hCont
                              refine two_ (i := 1) (j := 15) (Ni := some 39) (Nj := some 9) #[true, true, true, true, true, true, true, true, false, true, true, true, true, false, false, false, false] #[true, false, true, true, true, true, true, true, false, true, true, true, true, false, false, true, false] rfl rfl rfl rfl (two_of HT_.out (by kernel_rfl)) (by decide) (by decide) (fun K hK => ?_) (fun K hK => ?_)
                              · skip
                                refine goes_ Tryd.func39 (by kernel_rfl) rfl #[.string x7_19] (by rfl) rfl rfl (by (try simp only [List.map_toArray, List.map_cons, List.map_nil]); first | done | rfl | (simp only [List.length_drop, List.length_take]; rfl)) ?_
                                with_reducible refine (spec_l2Number.calls kj19 x7_19 t233 _ A23.out).mono ?_
                                rintro e w' ⟨rfl, ⟨nd, rfl⟩⟩
                                refine ⟨_, rfl, ?_⟩
                                refine hK.out _ _ trivial (fun hHeld => ?_)
                                clear hK K
                                refine norm_ (a' := ?_) ?_ ?_
                                rotate_left
                                · show Act.put _ (some 39) _ = _
                                  simp only [Act.put, List.setIfInBounds_toArray, List.set_cons_zero, List.set_cons_succ, i64_w, i32_w]
                                  rfl
                                refine two_ (i := 8) (j := 15) (Ni := some 46) (Nj := some 9) #[true, true, true, true, true, true, true, true, true, true, true, true, true, false, false, false, false] #[true, true, true, true, true, true, true, true, false, true, true, true, true, false, false, true, false] rfl rfl rfl rfl (two_of HT_.out (by kernel_rfl)) (by decide) (by decide) (fun K hK => ?_) (fun K hK => ?_)
                                · skip
                                  refine goes_ Tryd.func39 (by kernel_rfl) rfl #[.string (a1.extract ((ji24) : Int).toNat ((wrap64 ((a1.size : Int) - 3)) : Int).toNat)] (by rfl) rfl rfl (by (try simp only [List.map_toArray, List.map_cons, List.map_nil]); first | done | (simp only [hji24]; rfl) | rfl | (simp only [List.length_drop, List.length_take]; rfl)) ?_
                                  with_reducible refine (spec_l2Number.calls kj19 (a1.extract ((ji24) : Int).toNat ((wrap64 ((a1.size : Int) - 3)) : Int).toNat) t234 _ A28.out).mono ?_
                                  rintro e w' ⟨rfl, ⟨nd, rfl⟩⟩
                                  refine ⟨_, rfl, ?_⟩
                                  refine hK.out _ _ trivial (fun hHeld => ?_)
                                  clear hK K
                                  refine norm_ (a' := ?_) ?_ ?_
                                  rotate_left
                                  · show Act.put _ (some 46) _ = _
                                    simp only [Act.put, List.setIfInBounds_toArray, List.set_cons_zero, List.set_cons_succ, i64_w, i32_w]
                                    rfl
                                  refine two_ (i := 13) (j := 15) (Ni := some 51) (Nj := some 9) #[true, true, true, true, true, true, true, true, true, true, true, true, true, true, false, false, false] #[true, true, true, true, true, true, true, true, true, true, true, true, true, false, false, true, false] rfl rfl rfl rfl (two_of HT_.out (by kernel_rfl)) (by decide) (by decide) (fun K hK => ?_) (fun K hK => ?_)
                                  · skip
                                    refine goes_ Tryd.func39 (by kernel_rfl) rfl #[.string (a1.extract ((ji29) : Int).toNat a1.size)] (by rfl) rfl rfl (by (try simp only [List.map_toArray, List.map_cons, List.map_nil]); first | done | (simp only [hji29]; rfl) | rfl | (simp only [List.length_drop, List.length_take]; rfl)) ?_
                                    with_reducible refine (spec_l2Number.calls kj19 (a1.extract ((ji29) : Int).toNat a1.size) t235 _ A32.out).mono ?_
                                    rintro e w' ⟨rfl, ⟨nd, rfl⟩⟩
                                    refine ⟨_, rfl, ?_⟩
                                    refine hK.out _ _ trivial (fun hHeld => ?_)
                                    clear hK K
                                    refine norm_ (a' := ?_) ?_ ?_
                                    rotate_left
                                    · show Act.put _ (some 51) _ = _
                                      simp only [Act.put, List.setIfInBounds_toArray, List.set_cons_zero, List.set_cons_succ, i64_w, i32_w]
                                      rfl
                                    refine pure_ (i := 14) (N := some 52) (v := ?_) (a' := ?_) #[true, true, true, true, true, true, true, true, true, true, true, true, true, true, true, false, false] rfl rfl (any_of HT_.out (by kernel_rfl)) (fun _ _ _ h => h) (Or.inl ⟨by rfl, ?_⟩) ?_ ?_
                                    rotate_left
                                    · intro w'
                                      go_simp
                                      with_reducible rfl
                                    rotate_left
                                    · simp only [Act.put, List.setIfInBounds_toArray, List.set_cons_zero, List.set_cons_succ, i64_w, i32_w]
                                      rfl
                                    refine one_ (i := 15) (N := some 9) #[true, true, true, true, true, true, true, true, true, true, true, true, true, true, true, true, false] rfl rfl (one_of HT_.out (by kernel_rfl)) (by decide) (fun K hK => ?_)
                                    refine box_step ?hg (N := 9) ?hd (cs := #[.int .i64 0, .int .i64 0, .int .i64 0]) (t := 65) ?hr ?_; (case hd => rfl); (case hg => rfl); (case hr => first | (go_simp; done) | (go_simp; rfl))
                                    intro gb236 hg w35 hbox hb
                                    have n0_ := Aside0.mk (below_step (by repeat (first | (with_reducible first | exact HB.out | apply below_alloc | apply pw_below_drewN | apply below_drew1) | exact HB.out)) hb)
                                    have n1_ := Aside0.mk (hbox)
                                    have n2_ := Aside0.mk ((by rw [hg]; exact (below_size (by repeat (first | (with_reducible first | exact HB.out | apply below_alloc | apply pw_below_drewN | apply below_drew1) | exact HB.out))) : w.heap.size ≤ gb236))
                                    have n3_ := Aside0.mk ((by rw [hg]; exact (below_size (by repeat (first | (with_reducible first | exact HB.out | apply below_alloc | apply pw_below_drewN | apply below_drew1) | exact HB.out))) : w.heap.size ≤ gb236))
                                    clear HB
                                    have HB := n0_
                                    have BK236 := n1_
                                    have GW236 := n2_
                                    have GE236 := n3_
                                    clear n0_ n1_ n2_ n3_
                                    clear hb hbox hg
                                    refine hK.out _ _ trivial (fun hHeld => ?_)
                                    clear hK K
                                    refine norm_ (a' := ?_) ?_ ?_
                                    rotate_left
                                    · show Act.put _ (some 9) _ = _
                                      simp only [Act.put, List.setIfInBounds_toArray, List.set_cons_zero, List.set_cons_succ, i64_w, i32_w]
                                      rfl
                                    exact norm_ (by simp only [putAll, Act.put, List.setIfInBounds_toArray, List.set_cons_zero, List.set_cons_succ]) (hCont (gb236) _ ⟨(by (with_reducible repeat (first | refine blk_drewN ?_ _ | refine blk_drew ?_ | refine blk_alloc ?_ _)); exact BK236.out), GW236.out, GE236.out, (by repeat (first | (with_reducible first | exact HB.out | apply below_alloc | apply pw_below_drewN | apply below_drew1 | refine below_set ?_ GE236.out) | exact HB.out))⟩)
                                  · skip
                                    refine box_step ?hg (N := 9) ?hd (cs := #[.int .i64 0, .int .i64 0, .int .i64 0]) (t := 65) ?hr ?_; (case hd => rfl); (case hg => rfl); (case hr => first | (go_simp; done) | (go_simp; rfl))
                                    intro gb236 hg w35 hbox hb
                                    have n0_ := Aside0.mk (below_step (by repeat (first | (with_reducible first | exact HB.out | apply below_alloc | apply pw_below_drewN | apply below_drew1) | exact HB.out)) hb)
                                    have n1_ := Aside0.mk (hbox)
                                    have n2_ := Aside0.mk ((by rw [hg]; exact (below_size (by repeat (first | (with_reducible first | exact HB.out | apply below_alloc | apply pw_below_drewN | apply below_drew1) | exact HB.out))) : w.heap.size ≤ gb236))
                                    have n3_ := Aside0.mk ((by rw [hg]; exact (below_size (by repeat (first | (with_reducible first | exact HB.out | apply below_alloc | apply pw_below_drewN | apply below_drew1) | exact HB.out))) : w.heap.size ≤ gb236))
                                    clear HB
                                    have HB := n0_
                                    have BK236 := n1_
                                    have GW236 := n2_
                                    have GE236 := n3_
                                    clear n0_ n1_ n2_ n3_
                                    clear hb hbox hg
                                    refine hK.out _ _ trivial (fun hHeld => ?_)
                                    clear hK K
                                    refine norm_ (a' := ?_) ?_ ?_
                                    rotate_left
                                    · show Act.put _ (some 9) _ = _
                                      simp only [Act.put, List.setIfInBounds_toArray, List.set_cons_zero, List.set_cons_succ, i64_w, i32_w]
                                      rfl
                                    refine one_ (i := 13) (N := some 51) #[true, true, true, true, true, true, true, true, true, true, true, true, true, true, false, true, false] rfl rfl (one_of HT_.out (by kernel_rfl)) (by decide) (fun K hK => ?_)
                                    refine goes_ Tryd.func39 (by kernel_rfl) rfl #[.string (a1.extract ((ji29) : Int).toNat a1.size)] (by rfl) rfl rfl (by (try simp only [List.map_toArray, List.map_cons, List.map_nil]); first | done | (simp only [hji29]; rfl) | rfl | (simp only [List.length_drop, List.length_take]; rfl)) ?_
                                    with_reducible refine (spec_l2Number.calls kj19 (a1.extract ((ji29) : Int).toNat a1.size) t235 _ A32.out).mono ?_
                                    rintro e w' ⟨rfl, ⟨nd, rfl⟩⟩
                                    refine ⟨_, rfl, ?_⟩
                                    refine hK.out _ _ trivial (fun hHeld => ?_)
                                    clear hK K
                                    refine norm_ (a' := ?_) ?_ ?_
                                    rotate_left
                                    · show Act.put _ (some 51) _ = _
                                      simp only [Act.put, List.setIfInBounds_toArray, List.set_cons_zero, List.set_cons_succ, i64_w, i32_w]
                                      rfl
                                    refine pure_ (i := 14) (N := some 52) (v := ?_) (a' := ?_) #[true, true, true, true, true, true, true, true, true, true, true, true, true, true, true, true, false] rfl rfl (any_of HT_.out (by kernel_rfl)) (fun _ _ _ h => h) (Or.inl ⟨by rfl, ?_⟩) ?_ ?_
                                    rotate_left
                                    · intro w'
                                      go_simp
                                      with_reducible rfl
                                    rotate_left
                                    · simp only [Act.put, List.setIfInBounds_toArray, List.set_cons_zero, List.set_cons_succ, i64_w, i32_w]
                                      rfl
                                    exact norm_ (by simp only [putAll, Act.put, List.setIfInBounds_toArray, List.set_cons_zero, List.set_cons_succ]) (hCont (gb236) _ ⟨(by (with_reducible repeat (first | refine blk_drewN ?_ _ | refine blk_drew ?_ | refine blk_alloc ?_ _)); exact BK236.out), GW236.out, GE236.out, (by repeat (first | (with_reducible first | exact HB.out | apply below_alloc | apply pw_below_drewN | apply below_drew1 | refine below_set ?_ GE236.out) | exact HB.out))⟩)
                                · skip
                                  refine box_step ?hg (N := 9) ?hd (cs := #[.int .i64 0, .int .i64 0, .int .i64 0]) (t := 65) ?hr ?_; (case hd => rfl); (case hg => rfl); (case hr => first | (go_simp; done) | (go_simp; rfl))
                                  intro gb236 hg w35 hbox hb
                                  have n0_ := Aside0.mk (below_step (by repeat (first | (with_reducible first | exact HB.out | apply below_alloc | apply pw_below_drewN | apply below_drew1) | exact HB.out)) hb)
                                  have n1_ := Aside0.mk (hbox)
                                  have n2_ := Aside0.mk ((by rw [hg]; exact (below_size (by repeat (first | (with_reducible first | exact HB.out | apply below_alloc | apply pw_below_drewN | apply below_drew1) | exact HB.out))) : w.heap.size ≤ gb236))
                                  have n3_ := Aside0.mk ((by rw [hg]; exact (below_size (by repeat (first | (with_reducible first | exact HB.out | apply below_alloc | apply pw_below_drewN | apply below_drew1) | exact HB.out))) : w.heap.size ≤ gb236))
                                  clear HB
                                  have HB := n0_
                                  have BK236 := n1_
                                  have GW236 := n2_
                                  have GE236 := n3_
                                  clear n0_ n1_ n2_ n3_
                                  clear hb hbox hg
                                  refine hK.out _ _ trivial (fun hHeld => ?_)
                                  clear hK K
                                  refine norm_ (a' := ?_) ?_ ?_
                                  rotate_left
                                  · show Act.put _ (some 9) _ = _
                                    simp only [Act.put, List.setIfInBounds_toArray, List.set_cons_zero, List.set_cons_succ, i64_w, i32_w]
                                    rfl
                                  refine one_ (i := 8) (N := some 46) #[true, true, true, true, true, true, true, true, true, true, true, true, true, false, false, true, false] rfl rfl (one_of HT_.out (by kernel_rfl)) (by decide) (fun K hK => ?_)
                                  refine goes_ Tryd.func39 (by kernel_rfl) rfl #[.string (a1.extract ((ji24) : Int).toNat ((wrap64 ((a1.size : Int) - 3)) : Int).toNat)] (by rfl) rfl rfl (by (try simp only [List.map_toArray, List.map_cons, List.map_nil]); first | done | (simp only [hji24]; rfl) | rfl | (simp only [List.length_drop, List.length_take]; rfl)) ?_
                                  with_reducible refine (spec_l2Number.calls kj19 (a1.extract ((ji24) : Int).toNat ((wrap64 ((a1.size : Int) - 3)) : Int).toNat) t234 _ A28.out).mono ?_
                                  rintro e w' ⟨rfl, ⟨nd, rfl⟩⟩
                                  refine ⟨_, rfl, ?_⟩
                                  refine hK.out _ _ trivial (fun hHeld => ?_)
                                  clear hK K
                                  refine norm_ (a' := ?_) ?_ ?_
                                  rotate_left
                                  · show Act.put _ (some 46) _ = _
                                    simp only [Act.put, List.setIfInBounds_toArray, List.set_cons_zero, List.set_cons_succ, i64_w, i32_w]
                                    rfl
                                  refine one_ (i := 13) (N := some 51) #[true, true, true, true, true, true, true, true, true, true, true, true, true, true, false, true, false] rfl rfl (one_of HT_.out (by kernel_rfl)) (by decide) (fun K hK => ?_)
                                  refine goes_ Tryd.func39 (by kernel_rfl) rfl #[.string (a1.extract ((ji29) : Int).toNat a1.size)] (by rfl) rfl rfl (by (try simp only [List.map_toArray, List.map_cons, List.map_nil]); first | done | (simp only [hji29]; rfl) | rfl | (simp only [List.length_drop, List.length_take]; rfl)) ?_
                                  with_reducible refine (spec_l2Number.calls kj19 (a1.extract ((ji29) : Int).toNat a1.size) t235 _ A32.out).mono ?_
                                  rintro e w' ⟨rfl, ⟨nd, rfl⟩⟩
                                  refine ⟨_, rfl, ?_⟩
                                  refine hK.out _ _ trivial (fun hHeld => ?_)
                                  clear hK K
                                  refine norm_ (a' := ?_) ?_ ?_
                                  rotate_left
                                  · show Act.put _ (some 51) _ = _
                                    simp only [Act.put, List.setIfInBounds_toArray, List.set_cons_zero, List.set_cons_succ, i64_w, i32_w]
                                    rfl
                                  refine pure_ (i := 14) (N := some 52) (v := ?_) (a' := ?_) #[true, true, true, true, true, true, true, true, true, true, true, true, true, true, true, true, false] rfl rfl (any_of HT_.out (by kernel_rfl)) (fun _ _ _ h => h) (Or.inl ⟨by rfl, ?_⟩) ?_ ?_
                                  rotate_left
                                  · intro w'
                                    go_simp
                                    with_reducible rfl
                                  rotate_left
                                  · simp only [Act.put, List.setIfInBounds_toArray, List.set_cons_zero, List.set_cons_succ, i64_w, i32_w]
                                    rfl
                                  exact norm_ (by simp only [putAll, Act.put, List.setIfInBounds_toArray, List.set_cons_zero, List.set_cons_succ]) (hCont (gb236) _ ⟨(by (with_reducible repeat (first | refine blk_drewN ?_ _ | refine blk_drew ?_ | refine blk_alloc ?_ _)); exact BK236.out), GW236.out, GE236.out, (by repeat (first | (with_reducible first | exact HB.out | apply below_alloc | apply pw_below_drewN | apply below_drew1 | refine below_set ?_ GE236.out) | exact HB.out))⟩)
                              · skip
                                refine box_step ?hg (N := 9) ?hd (cs := #[.int .i64 0, .int .i64 0, .int .i64 0]) (t := 65) ?hr ?_; (case hd => rfl); (case hg => rfl); (case hr => first | (go_simp; done) | (go_simp; rfl))
                                intro gb236 hg w35 hbox hb
                                have n0_ := Aside0.mk (below_step (by repeat (first | (with_reducible first | exact HB.out | apply below_alloc | apply pw_below_drewN | apply below_drew1) | exact HB.out)) hb)
                                have n1_ := Aside0.mk (hbox)
                                have n2_ := Aside0.mk ((by rw [hg]; exact (below_size (by repeat (first | (with_reducible first | exact HB.out | apply below_alloc | apply pw_below_drewN | apply below_drew1) | exact HB.out))) : w.heap.size ≤ gb236))
                                have n3_ := Aside0.mk ((by rw [hg]; exact (below_size (by repeat (first | (with_reducible first | exact HB.out | apply below_alloc | apply pw_below_drewN | apply below_drew1) | exact HB.out))) : w.heap.size ≤ gb236))
                                clear HB
                                have HB := n0_
                                have BK236 := n1_
                                have GW236 := n2_
                                have GE236 := n3_
                                clear n0_ n1_ n2_ n3_
                                clear hb hbox hg
                                refine hK.out _ _ trivial (fun hHeld => ?_)
                                clear hK K
                                refine norm_ (a' := ?_) ?_ ?_
                                rotate_left
                                · show Act.put _ (some 9) _ = _
                                  simp only [Act.put, List.setIfInBounds_toArray, List.set_cons_zero, List.set_cons_succ, i64_w, i32_w]
                                  rfl
                                refine one_ (i := 1) (N := some 39) #[true, true, true, true, true, true, true, true, false, true, true, true, true, false, false, true, false] rfl rfl (one_of HT_.out (by kernel_rfl)) (by decide) (fun K hK => ?_)
                                refine goes_ Tryd.func39 (by kernel_rfl) rfl #[.string x7_19] (by rfl) rfl rfl (by (try simp only [List.map_toArray, List.map_cons, List.map_nil]); first | done | rfl | (simp only [List.length_drop, List.length_take]; rfl)) ?_
                                with_reducible refine (spec_l2Number.calls kj19 x7_19 t233 _ A23.out).mono ?_
                                rintro e w' ⟨rfl, ⟨nd, rfl⟩⟩
                                refine ⟨_, rfl, ?_⟩
                                refine hK.out _ _ trivial (fun hHeld => ?_)
                                clear hK K
                                refine norm_ (a' := ?_) ?_ ?_
                                rotate_left
                                · show Act.put _ (some 39) _ = _
                                  simp only [Act.put, List.setIfInBounds_toArray, List.set_cons_zero, List.set_cons_succ, i64_w, i32_w]
                                  rfl
                                refine one_ (i := 8) (N := some 46) #[true, true, true, true, true, true, true, true, true, true, true, true, true, false, false, true, false] rfl rfl (one_of HT_.out (by kernel_rfl)) (by decide) (fun K hK => ?_)
                                refine goes_ Tryd.func39 (by kernel_rfl) rfl #[.string (a1.extract ((ji24) : Int).toNat ((wrap64 ((a1.size : Int) - 3)) : Int).toNat)] (by rfl) rfl rfl (by (try simp only [List.map_toArray, List.map_cons, List.map_nil]); first | done | (simp only [hji24]; rfl) | rfl | (simp only [List.length_drop, List.length_take]; rfl)) ?_
                                with_reducible refine (spec_l2Number.calls kj19 (a1.extract ((ji24) : Int).toNat ((wrap64 ((a1.size : Int) - 3)) : Int).toNat) t234 _ A28.out).mono ?_
                                rintro e w' ⟨rfl, ⟨nd, rfl⟩⟩
                                refine ⟨_, rfl, ?_⟩
                                refine hK.out _ _ trivial (fun hHeld => ?_)
                                clear hK K
                                refine norm_ (a' := ?_) ?_ ?_
                                rotate_left
                                · show Act.put _ (some 46) _ = _
                                  simp only [Act.put, List.setIfInBounds_toArray, List.set_cons_zero, List.set_cons_succ, i64_w, i32_w]
                                  rfl
                                refine one_ (i := 13) (N := some 51) #[true, true, true, true, true, true, true, true, true, true, true, true, true, true, false, true, false] rfl rfl (one_of HT_.out (by kernel_rfl)) (by decide) (fun K hK => ?_)
                                refine goes_ Tryd.func39 (by kernel_rfl) rfl #[.string (a1.extract ((ji29) : Int).toNat a1.size)] (by rfl) rfl rfl (by (try simp only [List.map_toArray, List.map_cons, List.map_nil]); first | done | (simp only [hji29]; rfl) | rfl | (simp only [List.length_drop, List.length_take]; rfl)) ?_
                                with_reducible refine (spec_l2Number.calls kj19 (a1.extract ((ji29) : Int).toNat a1.size) t235 _ A32.out).mono ?_
                                rintro e w' ⟨rfl, ⟨nd, rfl⟩⟩
                                refine ⟨_, rfl, ?_⟩
                                refine hK.out _ _ trivial (fun hHeld => ?_)
                                clear hK K
                                refine norm_ (a' := ?_) ?_ ?_
                                rotate_left
                                · show Act.put _ (some 51) _ = _
                                  simp only [Act.put, List.setIfInBounds_toArray, List.set_cons_zero, List.set_cons_succ, i64_w, i32_w]
                                  rfl
                                refine pure_ (i := 14) (N := some 52) (v := ?_) (a' := ?_) #[true, true, true, true, true, true, true, true, true, true, true, true, true, true, true, true, false] rfl rfl (any_of HT_.out (by kernel_rfl)) (fun _ _ _ h => h) (Or.inl ⟨by rfl, ?_⟩) ?_ ?_
                                rotate_left
                                · intro w'
                                  go_simp
                                  with_reducible rfl
                                rotate_left
                                · simp only [Act.put, List.setIfInBounds_toArray, List.set_cons_zero, List.set_cons_succ, i64_w, i32_w]
                                  rfl
                                exact norm_ (by simp only [putAll, Act.put, List.setIfInBounds_toArray, List.set_cons_zero, List.set_cons_succ]) (hCont (gb236) _ ⟨(by (with_reducible repeat (first | refine blk_drewN ?_ _ | refine blk_drew ?_ | refine blk_alloc ?_ _)); exact BK236.out), GW236.out, GE236.out, (by repeat (first | (with_reducible first | exact HB.out | apply below_alloc | apply pw_below_drewN | apply below_drew1 | refine below_set ?_ GE236.out) | exact HB.out))⟩)
                            rintro gb236 w36 ⟨h0_, h1_, h2_, h3_⟩
                            have n0_ : Aside0 (w36.heap[gb236]? = some (.cells #[.int .i64 0, .int .i64 0, .int .i64 0] 65 (0, 0))) := ⟨h0_⟩
                            have n1_ : Aside0 (w.heap.size ≤ gb236) := ⟨h1_⟩
                            have n2_ : Aside0 (w.heap.size ≤ gb236) := ⟨h2_⟩
                            have n3_ : Aside0 (Below w.heap.size w w36) := ⟨h3_⟩
                            clear HB
                            clear h0_ h1_ h2_ h3_
                            have BK236 := n0_
                            have GW236 := n1_
                            have GE236 := n2_
                            have HB := n3_
                            clear n0_ n1_ n2_ n3_
                            have hHeld := trivial
                            refine norm_ (a' := ?_) ?_ ?_
                            rotate_left
                            · simp only [putAll, Act.put, List.setIfInBounds_toArray, List.set_cons_zero, List.set_cons_succ]
                              rfl
                            refine one_ (i := 16) (N := none) #[true, true, true, true, true, true, true, true, true, true, true, true, true, true, true, true, true] rfl rfl (one_of HT_.out (by kernel_rfl)) (by decide) (fun K hK => ?_)
                            have hs37 : w36.cell? ⟨gb236, 0, none⟩ = some (.int .i64 0) := (blk_cell BK236.out 0).trans rfl
                            have hfs37 := blk_frozen BK236.out 0
                            have hs38 : w36.cell? ⟨gb236, 1, none⟩ = some (.int .i64 0) := (blk_cell BK236.out 1).trans rfl
                            have hfs38 := blk_frozen BK236.out 1
                            have hs39 : w36.cell? ⟨gb236, 2, none⟩ = some (.int .i64 0) := (blk_cell BK236.out 2).trans rfl
                            have hfs39 := blk_frozen BK236.out 2
                            refine skip_ (w1 := ?_) (by rfl) rfl ?_ ?_
                            rotate_left
                            · go_simp
                              rfl
                            refine hK.out _ _ trivial (fun hHeld => ?_)
                            clear hK K
                            refine done_ (done_of HT_.out (by kernel_rfl)) ?_
                            go_upto_if 53 with (fail)
                            go_cut [] (fun wc => ∃ (kq : Nat) (x237000_32 : Int), Aside0 (spec_ReadDate.j2 kq a0 a1 x237000_32 t234 t235 = some (r1, r2)) ∧ Aside0 (kq ≤ kj19) ∧ Aside0 (wc.heap[gb236]? = some (.cells #[.int .i64 x237000_32, .int .i64 t234, .int .i64 t235] 65 (0, 0))) ∧ Aside0 (Below w.heap.size w wc))
                            case first =>
                              have H := HC33.out
                              clear HC33
                              by_cases c40 : nb_ = true
                              · rw [if_pos c40] at H
                                obtain rfl : nb_ = true := c40
                                have H' := Aside0.mk H
                                clear H
                                have hcz41_0 : w36.cell? ⟨gb236, 0, none⟩ = some (.int .i64 0) := (blk_cell BK236.out 0).trans rfl
                                have hcz41_1 : w36.cell? ⟨gb236, 1, none⟩ = some (.int .i64 0) := (blk_cell BK236.out 1).trans rfl
                                have hcz41_2 : w36.cell? ⟨gb236, 2, none⟩ = some (.int .i64 0) := (blk_cell BK236.out 2).trans rfl
                                have hfz41_0 := blk_frozen BK236.out 0
                                have hfz41_1 := blk_frozen BK236.out 1
                                have hfz41_2 := blk_frozen BK236.out 2
                                go_wp2
                                go_meet
                                case rel => exact ⟨_, (wrap64 (-t233)), (by first | exact H' | exact ⟨by (try rw [hji15]); (try rw [hji24]); (try rw [hji29]); exact H'.out⟩), ⟨by have := HJ2.out; have := HJ19.out; first | omega | exact Nat.le_refl _⟩, ⟨by (with_reducible repeat (first | refine blk_drewN ?_ _ | refine blk_drew ?_ | refine blk_alloc ?_ _)); refine blk_put (cs := #[.int .i64 t233, .int .i64 t234, .int .i64 t235]) ?_ 0 _ rfl; (with_reducible repeat (first | refine blk_drewN ?_ _ | refine blk_drew ?_ | refine blk_alloc ?_ _)); refine blk_put (cs := #[.int .i64 t233, .int .i64 t234, .int .i64 0]) ?_ 2 _ rfl; (with_reducible repeat (first | refine blk_drewN ?_ _ | refine blk_drew ?_ | refine blk_alloc ?_ _)); refine blk_put (cs := #[.int .i64 t233, .int .i64 0, .int .i64 0]) ?_ 1 _ rfl; (with_reducible repeat (first | refine blk_drewN ?_ _ | refine blk_drew ?_ | refine blk_alloc ?_ _)); refine blk_put (cs := #[.int .i64 0, .int .i64 0, .int .i64 0]) ?_ 0 _ rfl; (with_reducible repeat (first | refine blk_drewN ?_ _ | refine blk_drew ?_ | refine blk_alloc ?_ _)); exact BK236.out⟩, ⟨by repeat (first | (with_reducible first | exact HB.out | apply below_alloc | apply pw_below_drewN | apply below_drew1 | refine below_set ?_ GE236.out) | exact HB.out)⟩⟩
                              · rw [if_neg c40] at H
                                obtain rfl : nb_ = false := by simpa using c40
                                have H' := Aside0.mk H
                                clear H
                                go_wp2
                                go_meet
                                case rel => exact ⟨_, (t233), (by first | exact H' | exact ⟨by (try rw [hji15]); (try rw [hji24]); (try rw [hji29]); exact H'.out⟩), ⟨by have := HJ2.out; have := HJ19.out; first | omega | exact Nat.le_refl _⟩, ⟨by (with_reducible repeat (first | refine blk_drewN ?_ _ | refine blk_drew ?_ | refine blk_alloc ?_ _)); refine blk_put (cs := #[.int .i64 t233, .int .i64 t234, .int .i64 0]) ?_ 2 _ rfl; (with_reducible repeat (first | refine blk_drewN ?_ _ | refine blk_drew ?_ | refine blk_alloc ?_ _)); refine blk_put (cs := #[.int .i64 t233, .int .i64 0, .int .i64 0]) ?_ 1 _ rfl; (with_reducible repeat (first | refine blk_drewN ?_ _ | refine blk_drew ?_ | refine blk_alloc ?_ _)); refine blk_put (cs := #[.int .i64 0, .int .i64 0, .int .i64 0]) ?_ 0 _ rfl; (with_reducible repeat (first | refine blk_drewN ?_ _ | refine blk_drew ?_ | refine blk_alloc ?_ _)); exact BK236.out⟩, ⟨by repeat (first | (with_reducible first | exact HB.out | apply below_alloc | apply pw_below_drewN | apply below_drew1 | refine below_set ?_ GE236.out) | exact HB.out)⟩⟩
                            case rest =>
                              clear HC33
                              try clear c1
                              try clear p1
                              try clear q1
                              try clear hx1
                              try clear qi1
                              try clear c2
                              try clear p2
                              try clear c3
                              try clear c4
                              try clear c4b0
                              try clear c4b1
                              try clear c6
                              try clear c6b0
                              try clear p6
                              try clear c7
                              try clear c7b0
                              try clear p8
                              try clear q8
                              try clear hx8
                              try clear c9
                              try clear c9b0
                              try clear c9b1
                              try clear c11
                              try clear c11b0
                              try clear c12
                              try clear c12b0
                              try clear p13
                              try clear q13
                              try clear hx13
                              try clear c14
                              try clear c16
                              try clear c16b0
                              try clear c16b1
                              try clear c17
                              try clear c17b0
                              try clear c17b1
                              try clear c18
                              try clear c18b0
                              try clear c18b1
                              try clear p19
                              try clear q19
                              try clear hx19
                              try clear qi19
                              try clear c21
                              try clear c21b0
                              try clear c21b1
                              try clear c22
                              try clear c22b0
                              try clear c22b1
                              try clear c25
                              try clear c25b0
                              try clear c25b1
                              try clear c26
                              try clear c26b0
                              try clear c26b1
                              try clear c27
                              try clear c27b0
                              try clear c27b1
                              try clear c30
                              try clear c30b0
                              try clear c30b1
                              try clear c31
                              try clear c31b0
                              try clear c31b1
                              try clear c39
                              try clear c40
                              try clear c40b0
                              try clear c40b1
                              try clear c40b2
                              try clear hcz41_0
                              try clear hcz41_1
                              try clear hcz41_2
                              try clear hfz41_0
                              try clear hfz41_1
                              try clear hfz41_2
                              try clear p1
                              try clear p13
                              try clear p19
                              try clear p2
                              try clear p6
                              try clear p8
                              try clear q1
                              try clear q13
                              try clear q19
                              try clear q8
                              obtain ⟨kq, x237000_32, HA, HJ32, BK236, HB⟩ := hcut
                              cases kq with
                              | zero => exact absurd HA.out (by simp [spec_ReadDate.j2])
                              | succ kj32 =>
                                have H := HA.out
                                clear HA
                                simp only [spec_ReadDate.j2] at H
                                replace H := Option.bind_eq_some_iff.mp H
                                obtain ⟨t237, A420, H⟩ := H
                                replace H : (if t237.toList = a1.toList then ((spec_DayOf.f kj32 a0 x237000_32 t234 t235).bind fun bt238 => (some (bt238.1, bt238.2))) else (some (0, false))) = some (r1, r2) := H
                                have A42 := Aside0.mk A420
                                clear A420
                                by_cases c43 : t237.toList = a1.toList
                                · rw [if_pos c43] at H
                                  have c43b0 : (t237.toList == a1.toList) = true := beq_iff_eq.mpr c43
                                  have c43b1 : (t237.toList != a1.toList) = false := bne_eq_false_iff_eq.mpr c43
                                  clear c43
                                  replace H := Option.bind_eq_some_iff.mp H
                                  obtain ⟨⟨t238, t239⟩, A440, H⟩ := H
                                  replace H : (some (t238, t239)) = some (r1, r2) := H
                                  have A44 := Aside0.mk A440
                                  clear A440
                                  simp only [Option.some.injEq, Prod.mk.injEq] at H
                                  obtain ⟨rfl, rfl⟩ := H
                                  have hcz45_0 : wc.cell? ⟨gb236, 0, none⟩ = some (.int .i64 x237000_32) := (blk_cell BK236.out 0).trans rfl
                                  have hcz45_1 : wc.cell? ⟨gb236, 1, none⟩ = some (.int .i64 t234) := (blk_cell BK236.out 1).trans rfl
                                  have hcz45_2 : wc.cell? ⟨gb236, 2, none⟩ = some (.int .i64 t235) := (blk_cell BK236.out 2).trans rfl
                                  have hfz45_0 := blk_frozen BK236.out 0
                                  have hfz45_1 := blk_frozen BK236.out 1
                                  have hfz45_2 := blk_frozen BK236.out 2
                                  go_wp2_with (first | ((with_reducible refine gate_callee (f := 40) rfl ?_); refine goesL_ (some 59) rfl rfl Tryd.func40 (by kernel_rfl) rfl #[.agg #[.int .i64 x237000_32, .int .i64 t234, .int .i64 t235]] rfl (by (try simp only [List.map_toArray, List.map_cons, List.map_nil]); first | done | rfl | (simp only [List.length_drop, List.length_take]; rfl)) ?_; (with_reducible refine (spec_DateText.calls kj32 x237000_32 t234 t235 t237 _ A42.out).mono ?_); rintro e w46 ⟨rfl, hb⟩; refine ⟨_, rfl, ?_⟩; have n0_ := Aside0.mk (blk_below (g := gb236) (o := .cells #[.int .i64 x237000_32, .int .i64 t234, .int .i64 t235] 65 (0, 0)) (by (with_reducible repeat (first | refine blk_drewN ?_ _ | refine blk_drew ?_ | refine blk_alloc ?_ _)); exact BK236.out) hb); have n1_ := Aside0.mk (below_step (by repeat (first | (with_reducible first | exact HB.out | apply below_alloc | apply pw_below_drewN | apply below_drew1 | refine below_set ?_ GE236.out) | exact HB.out)) hb); clear BK236; clear HB; have BK236 := n0_; have HB := n1_; clear n0_ n1_; (try clear hb); (try clear hb2); (try clear hk); (try clear hi); have hcz47_0 : w46.cell? ⟨gb236, 0, none⟩ = some (.int .i64 x237000_32) := (blk_cell BK236.out 0).trans rfl; have hcz47_1 : w46.cell? ⟨gb236, 1, none⟩ = some (.int .i64 t234) := (blk_cell BK236.out 1).trans rfl; have hcz47_2 : w46.cell? ⟨gb236, 2, none⟩ = some (.int .i64 t235) := (blk_cell BK236.out 2).trans rfl; have hfz47_0 := blk_frozen BK236.out 0; have hfz47_1 := blk_frozen BK236.out 1; have hfz47_2 := blk_frozen BK236.out 2) | ((with_reducible refine gate_callee (f := 41) rfl ?_); refine goesL_ (some 64) rfl rfl Tryd.func41 (by kernel_rfl) rfl #[.int .i64 a0, .agg #[.int .i64 x237000_32, .int .i64 t234, .int .i64 t235]] rfl (by (try simp only [List.map_toArray, List.map_cons, List.map_nil]); first | done | rfl | (simp only [List.length_drop, List.length_take]; rfl)) ?_; (with_reducible refine (spec_DayOf.calls kj32 a0 x237000_32 t234 t235 t238 t239 _ A44.out).mono ?_); rintro e w48 ⟨rfl, hb⟩; refine ⟨_, rfl, ?_⟩; have n0_ := Aside0.mk (blk_below (g := gb236) (o := .cells #[.int .i64 x237000_32, .int .i64 t234, .int .i64 t235] 65 (0, 0)) (by (with_reducible repeat (first | refine blk_drewN ?_ _ | refine blk_drew ?_ | refine blk_alloc ?_ _)); exact BK236.out) hb); have n1_ := Aside0.mk (below_step (by repeat (first | (with_reducible first | exact HB.out | apply below_alloc | apply pw_below_drewN | apply below_drew1 | refine below_set ?_ GE236.out) | exact HB.out)) hb); clear BK236; clear HB; have BK236 := n0_; have HB := n1_; clear n0_ n1_; (try clear hb); (try clear hb2); (try clear hk); (try clear hi)))
                                  go_ret2
                                  exact ⟨by first | rfl | (simp [errW_none, errW_some] <;> rfl) | (simp only [← hji15, ← hji24, ← hji29]; first | rfl | (simp [errW_none, errW_some] <;> rfl)) | (simp [*, errW_none, errW_some] <;> rfl), by repeat (first | (with_reducible first | exact HB.out | apply below_alloc | apply pw_below_drewN | apply below_drew1 | refine below_set ?_ GE236.out) | exact HB.out)⟩
                                · rw [if_neg c43] at H
                                  have c43b0 : (t237.toList == a1.toList) = false := beq_eq_false_iff_ne.mpr c43
                                  have c43b1 : (t237.toList != a1.toList) = true := bne_iff_ne.mpr c43
                                  simp only [Option.some.injEq, Prod.mk.injEq] at H
                                  obtain ⟨rfl, rfl⟩ := H
                                  have hcz49_0 : wc.cell? ⟨gb236, 0, none⟩ = some (.int .i64 x237000_32) := (blk_cell BK236.out 0).trans rfl
                                  have hcz49_1 : wc.cell? ⟨gb236, 1, none⟩ = some (.int .i64 t234) := (blk_cell BK236.out 1).trans rfl
                                  have hcz49_2 : wc.cell? ⟨gb236, 2, none⟩ = some (.int .i64 t235) := (blk_cell BK236.out 2).trans rfl
                                  have hfz49_0 := blk_frozen BK236.out 0
                                  have hfz49_1 := blk_frozen BK236.out 1
                                  have hfz49_2 := blk_frozen BK236.out 2
                                  go_wp2_with (first | ((with_reducible refine gate_callee (f := 40) rfl ?_); refine goesL_ (some 59) rfl rfl Tryd.func40 (by kernel_rfl) rfl #[.agg #[.int .i64 x237000_32, .int .i64 t234, .int .i64 t235]] rfl (by (try simp only [List.map_toArray, List.map_cons, List.map_nil]); first | done | rfl | (simp only [List.length_drop, List.length_take]; rfl)) ?_; (with_reducible refine (spec_DateText.calls kj32 x237000_32 t234 t235 t237 _ A42.out).mono ?_); rintro e w50 ⟨rfl, hb⟩; refine ⟨_, rfl, ?_⟩; have n0_ := Aside0.mk (blk_below (g := gb236) (o := .cells #[.int .i64 x237000_32, .int .i64 t234, .int .i64 t235] 65 (0, 0)) (by (with_reducible repeat (first | refine blk_drewN ?_ _ | refine blk_drew ?_ | refine blk_alloc ?_ _)); exact BK236.out) hb); have n1_ := Aside0.mk (below_step (by repeat (first | (with_reducible first | exact HB.out | apply below_alloc | apply pw_below_drewN | apply below_drew1 | refine below_set ?_ GE236.out) | exact HB.out)) hb); clear BK236; clear HB; have BK236 := n0_; have HB := n1_; clear n0_ n1_; (try clear hb); (try clear hb2); (try clear hk); (try clear hi)))
                                  go_ret2
                                  exact ⟨by first | rfl | (simp [errW_none, errW_some] <;> rfl) | (simp only [← hji15, ← hji24, ← hji29]; first | rfl | (simp [errW_none, errW_some] <;> rfl)) | (simp [*, errW_none, errW_some] <;> rfl), by repeat (first | (with_reducible first | exact HB.out | apply below_alloc | apply pw_below_drewN | apply below_drew1 | refine below_set ?_ GE236.out) | exact HB.out)⟩
                          · rw [if_neg c31] at H
                            exact absurd H (by simp)
                        · rw [if_neg c30] at H
                          exact absurd H (by simp)
                      · rw [if_neg c27] at H
                        exact absurd H (by simp)
                    · rw [if_neg c26] at H
                      exact absurd H (by simp)
                  · rw [if_neg c25] at H
                    exact absurd H (by simp)
            · rw [if_neg c18] at H
              exact absurd H (by simp)
          · rw [if_neg c17] at H
            exact absurd H (by simp)
        · rw [if_neg c16] at H
          exact absurd H (by simp)

end Go.Proofs.YtghglglbajnncaaDoor.PFnExactReadDate
