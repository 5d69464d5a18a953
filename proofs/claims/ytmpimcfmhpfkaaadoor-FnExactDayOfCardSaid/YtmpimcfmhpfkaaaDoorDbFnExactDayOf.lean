/- DayOf: the reference's law in plain numbers, and the walk of the law. -/
import Derived.Test.YtmpimcfmhpfkaaaDoorDaFnExactDayOf
namespace Go.Proofs.YtmpimcfmhpfkaaaDoor.PFnExactDayOf
open Go.RowKit Go.Proofs.YtmpimcfmhpfkaaaDoorW.PrintWords Go.Proofs.YtmpimcfmhpfkaaaDoorW.PrintLast Go.Proofs.YtmpimcfmhpfkaaaDoorW.PrintMore
set_option linter.unusedVariables false
set_option linter.unusedSimpArgs false
theorem l2Mod_is (a b : Int) (hb : 0 < b) (hb2 : b ≤ 1000) (h1 : -1000000000 ≤ a) (h2 : a ≤ 1000000000) : spec_l2Mod.f a b = some (a % b) := by
  unfold spec_l2Mod.f spec_l2Floor.f
  rw [floor_is hb (by omega) (by omega)]
  simp only [Option.bind_some]
  have e := Int.mul_ediv_add_emod a b
  have h0 := Int.emod_nonneg a (by omega : b ≠ 0)
  have h1 := Int.emod_lt_of_pos a hb
  rw [wrap_id (x := b * (a / b)) (by omega) (by omega), wrap_id (by omega) (by omega)]
  congr 1; omega
theorem specLeap_is (c y : Int) (h1 : -1000000000 ≤ y) (h2 : y ≤ 1000000000) : spec_l2Leap.f c y = some (leapB c y) := by
  unfold spec_l2Leap.f leapB
  rw [l2Mod_is y 4 (by omega) (by omega) h1 h2, l2Mod_is y 100 (by omega) (by omega) h1 h2, l2Mod_is y 400 (by omega) (by omega) h1 h2]
  simp only [Option.bind_some, tm_zero]
  have b4 : ((y % 4) == 0) = decide (y % 4 = 0) := by rw [Bool.eq_iff_iff]; simp
  have b400 : ((y % 400) == 0) = decide (y % 400 = 0) := by rw [Bool.eq_iff_iff]; simp
  rw [b4, b400]
  by_cases hc : c = 2
  · simp [hc]
  · by_cases h4 : y % 4 = 0
    · by_cases h100 : y % 100 = 0
      · simp [hc, h4, h100]
      · simp [hc, h4, h100]
    · have : ¬ y % 400 = 0 := by omega
      simp [hc, h4, this]

theorem rd_months (m : Int) (h1 : 1 ≤ m) (h2 : m ≤ 12) : rd [31, 28, 31, 30, 31, 30, 31, 31, 30, 31, 30, 31] (m - 1) = ml m := by
  rcases (by omega : m = 1 ∨ m = 2 ∨ m = 3 ∨ m = 4 ∨ m = 5 ∨ m = 6 ∨ m = 7 ∨ m = 8 ∨ m = 9 ∨ m = 10 ∨ m = 11 ∨ m = 12) with rfl | rfl | rfl | rfl | rfl | rfl | rfl | rfl | rfl | rfl | rfl | rfl <;> rfl
theorem specMonthDays1_is (c y m : Int) (h1 : -1000000000 ≤ y) (h2 : y ≤ 1000000000) (m1 : 1 ≤ m) (m2 : m ≤ 12) : spec_l2MonthDays.f c y m = some (mdV m (leapB c y)) := by
  unfold spec_l2MonthDays.f mdV
  have hm := ml_le m
  simp only [Option.bind_some]
  rw [wrap_id (x := m - 1) (by omega) (by omega), if_pos (by omega), if_pos (by simp; omega), specLeap_is c y h1 h2, rd_months m m1 m2]
  simp only [Option.bind_some]
  rw [wrap_id (x := ml m + 1) (by omega) (by omega)]
  by_cases e : m = 2
  · cases leapB c y <;> simp [e]
  · simp [e]

theorem specCal_is (c : Int) : spec_l2Cal.f c = some (decide (c = 1 ∨ c = 2)) := by
  unfold spec_l2Cal.f
  by_cases c1 : c = 1
  · simp [c1]
  · by_cases c2 : c = 2 <;> simp [c1, c2]
theorem specYear_is (y : Int) : spec_l2Year.f y = some (decide (-5000 ≤ y ∧ y ≤ 9999)) := by
  unfold spec_l2Year.f
  by_cases h1 : -5000 ≤ y <;> simp [h1]

theorem specFloor_is (a b : Int) (hb : 0 < b) (h1 : -4611686018427387904 ≤ a) (h2 : a ≤ 4611686018427387904) : spec_l2Floor.f a b = some (a / b) := by
  unfold spec_l2Floor.f; exact floor_is hb h1 h2
/-- The reference's days to a year are the program's, counted from another day. -/
theorem specDays_is (c y : Int) (hc : c = 1 ∨ c = 2) (h1 : -100000 ≤ y) (h2 : y ≤ 100000) : spec_l2Days.f c y = some (ysV c y - bdV c - if c = 2 then 13 else 0) := by
  unfold spec_l2Days.f ysV bdV
  rw [wrap_id (x := y - 1) (by omega) (by omega), specFloor_is (y - 1) 4 (by omega) (by omega) (by omega)]
  simp only [Option.bind_some]
  rw [specFloor_is (y - 1) 100 (by omega) (by omega) (by omega)]
  simp only [Option.bind_some]
  rw [specFloor_is (y - 1) 400 (by omega) (by omega) (by omega)]
  simp only [Option.bind_some]
  rw [wrap_id (x := y - 2000) (by omega) (by omega), wrap_id (x := (y - 2000) * 365) (by omega) (by omega), wrap_id (x := -((y - 1) / 100)) (by omega) (by omega), wrap_id (x := -((y - 1) / 100) + (y - 1) / 400) (by omega) (by omega), wrap_id (x := (y - 1) / 4 + (-((y - 1) / 100) + (y - 1) / 400)) (by omega) (by omega)]
  rw [wrap_id (x := (y - 2000) * 365 + ((y - 1) / 4 + (-((y - 1) / 100) + (y - 1) / 400))) (by omega) (by omega), wrap_id (x := (y - 2000) * 365 + ((y - 1) / 4 + (-((y - 1) / 100) + (y - 1) / 400)) - 484) (by omega) (by omega), wrap_id (x := (y - 2000) * 365 + (y - 1) / 4) (by omega) (by omega), wrap_id (x := (y - 2000) * 365 + (y - 1) / 4 - 499) (by omega) (by omega)]
  rcases hc with rfl | rfl
  · rw [if_pos rfl, if_pos rfl, if_pos rfl, if_neg (by omega)]; congr 1; omega
  · rw [if_neg (by omega), if_neg (by omega), if_neg (by omega), if_pos rfl]; congr 1; omega
theorem specDayOf_l0 (c y m d : Int) (hc : c = 1 ∨ c = 2) (hy1 : -5000 ≤ y) (hy2 : y ≤ 9999) (hm1 : 1 ≤ m) (hm2 : m ≤ 12) : ∀ (t k j : Nat) (n : Int), 1 ≤ j → (m - j : Int) = t → t < k → -1000000000 ≤ n → n + 31 * t ≤ 1000000000 →
    spec_l2DayOf.l0 k c n (j : Int) y m d = some (n + (sumM (leapB c y) m.toNat - sumM (leapB c y) j) + (if c = 2 then 13 else 0), true) := by
  intro t
  induction t with
  | zero =>
    intro k j n hj ht hk h1 h2
    obtain ⟨k, rfl⟩ : ∃ q, k = q + 1 := ⟨k - 1, by omega⟩
    have e : m.toNat = j := by omega
    simp only [spec_l2DayOf.l0]
    rw [if_neg (by omega), wrap_id (x := n + 13) (by omega) (by omega), e]
    rcases hc with rfl | rfl
    · rw [if_neg (by omega), if_neg (by omega)]; congr 2; omega
    · rw [if_pos rfl, if_pos rfl]; congr 2; omega
  | succ t ih =>
    intro k j n hj ht hk h1 h2
    obtain ⟨k, rfl⟩ : ∃ q, k = q + 1 := ⟨k - 1, by omega⟩
    have hmd := mdV_le (j : Int) (leapB c y)
    have hs := sumM_succ (leapB c y) j hj
    simp only [spec_l2DayOf.l0]
    rw [if_pos (by omega), specMonthDays1_is c y j (by omega) (by omega) (by omega) (by omega)]
    simp only [Option.bind_some]
    rw [wrap_id (x := n + mdV (j : Int) (leapB c y)) (by omega) (by omega), wrap_id (x := (j : Int) + 1) (by omega) (by omega), show ((j : Int) + 1) = ((j + 1 : Nat) : Int) from by omega, ih k (j + 1) _ (by omega) (by omega) (by omega) (by omega) (by omega)]
    congr 2; omega
theorem specL2DayOf_is (c y m d : Int) (k : Nat) : spec_l2DayOf.f (k + 14) c y m d = some (if isDateB c y m d = true then (dcV c y m d - bdV c, true) else (0, false)) := by
  have jt : spec_l2DayOf.j0 (k + 14) c true y m d = some (0, false) := by
    show spec_l2DayOf.j0 (k + 13 + 1) c true y m d = _
    simp only [spec_l2DayOf.j0, if_true]
  unfold spec_l2DayOf.f
  simp only [specCal_is, specYear_is, Option.bind_some, decide_eq_true_eq]
  by_cases hc : c = 1 ∨ c = 2
  · by_cases hy : -5000 ≤ y ∧ y ≤ 9999
    · have hg : goodYearB c y = true := decide_eq_true ⟨hc, hy⟩
      by_cases m1 : m < 1
      · have e0 : isDateB c y m d = false := by unfold isDateB; rw [decide_eq_false (by omega)]; rfl
        rw [if_pos hc, if_pos hy, if_pos m1, jt, e0]; rfl
      by_cases m2 : m > 12
      · have e0 : isDateB c y m d = false := by unfold isDateB; rw [decide_eq_false (by omega)]; rfl
        rw [if_pos hc, if_pos hy, if_neg m1, if_pos m2, jt, e0]; rfl
      by_cases d1 : d < 1
      · have e0 : isDateB c y m d = false := by unfold isDateB; rw [decide_eq_false (by omega)]; rfl
        rw [if_pos hc, if_pos hy, if_neg m1, if_neg m2, if_pos d1, jt, e0]; rfl
      rw [if_pos hc, if_pos hy, if_neg m1, if_neg m2, if_neg d1, specMonthDays1_is c y m (by omega) (by omega) (by omega) (by omega)]
      simp only [Option.bind_some]
      by_cases d2 : d > mdV m (leapB c y)
      · have e0 : isDateB c y m d = false := by unfold isDateB; rw [decide_eq_false (by omega : ¬ d ≤ mdV m (leapB c y))]; simp
        rw [decide_eq_true d2, jt, e0]; rfl
      · have e0 : isDateB c y m d = true := by unfold isDateB; rw [decide_eq_true (by omega : 1 ≤ m ∧ m ≤ 12 ∧ 1 ≤ d), hg, decide_eq_true (by omega : d ≤ mdV m (leapB c y))]; rfl
        have hmd := mdV_le m (leapB c y)
        have hyb : -40000000 ≤ ysV c y ∧ ysV c y ≤ 40000000 := by unfold ysV; split <;> omega
        have hbb : 730485 ≤ bdV c ∧ bdV c ≤ 730487 := by unfold bdV; split <;> omega
        rw [decide_eq_false d2, e0, if_pos rfl]
        show spec_l2DayOf.j0 (k + 13 + 1) c false y m d = _
        simp only [spec_l2DayOf.j0, specDays_is c y hc (by omega) (by omega), Option.bind_some, Bool.false_eq_true, if_false]
        have hq : (0 : Int) ≤ (if c = 2 then 13 else 0) ∧ (if c = 2 then (13 : Int) else 0) ≤ 13 := by split <;> omega
        generalize hqq : (if c = 2 then (13 : Int) else 0) = q at hq ⊢
        rw [wrap_id (x := ysV c y - bdV c - q + d) (by omega) (by omega), wrap_id (x := ysV c y - bdV c - q + d - 1) (by omega) (by omega)]
        have := specDayOf_l0 c y m d hc hy.1 hy.2 (by omega) (by omega) (m - 1).toNat (k + 13) 1 (ysV c y - bdV c - q + d - 1) (by omega) (by omega) (by omega) (by omega) (by omega)
        rw [hqq] at this
        rw [show ((1 : Nat) : Int) = 1 from rfl] at this
        rw [this]
        unfold dcV
        congr 2
        show _ = _
        simp only [sumM]; omega
    · have eg : goodYearB c y = false := decide_eq_false (fun h => hy h.2)
      have e0 : isDateB c y m d = false := by unfold isDateB; rw [eg]; simp
      rw [if_pos hc, if_neg hy, jt, e0]; rfl
  · have eg : goodYearB c y = false := decide_eq_false (fun h => hc h.1)
    have e0 : isDateB c y m d = false := by unfold isDateB; rw [eg]; simp
    rw [if_neg hc, jt, e0]; rfl
theorem specDay_is (n : Int) : spec_l2Day.f n = some (decide (-1000000 ≤ n ∧ n ≤ 1000000)) := by
  unfold spec_l2Day.f
  by_cases h1 : -1000000 ≤ n <;> simp [h1]

theorem specDayOf_is (c y m d : Int) : spec_DayOf.f 14 c y m d = some (dayOfV c y m d) := by
  unfold spec_DayOf.f dayOfV
  rw [specL2DayOf_is c y m d 0]
  cases isDateB c y m d
  · simp
  · simp only [if_true, Option.bind_some, specDay_is, true_and, decide_eq_true_eq]
    split <;> rfl

set_option maxHeartbeats 4000000 in
theorem law_calls (c y m d : Int) (w : World) (hT : Tab w) :
    Calls Tryd.prog 5 #[.int .i64 c, .agg #[.int .i64 y, .int .i64 m, .int .i64 d]] w fun e w' => e = .returned (.bool true) ∧ Below w.heap.size w w' := by
  have hs : spec_DayOf.f 14 c y m d = some ((dayOfV c y m d).1, (dayOfV c y m d).2) := specDayOf_is c y m d
  have hcall : ∀ w', Tab w' → Calls Tryd.prog 15 #[.int .i64 c, .agg #[.int .i64 y, .int .i64 m, .int .i64 d]] w' fun e w'' => e = .returned (.tuple #[.int .i64 (dayOfV c y m d).1, .bool (dayOfV c y m d).2]) ∧ Below w'.heap.size w' w'' := fun w' h => DayOf_calls c y m d w' h
  generalize (dayOfV c y m d).1 = A at *
  generalize (dayOfV c y m d).2 = B at *
  have hb0 : Below w.heap.size w (w.alloc (.cells #[.int .i64 y, .int .i64 m, .int .i64 d] 34)) := below_alloc (Below.refl _ _) _
  have HS := Lib.hid hs; have HC := Lib.hid hcall; have HT := Lib.hid (hT.below hb0); have HB := Lib.hid hb0; clear hs hcall hT hb0
  have htd : laws_toDate.f y m d = some (y, m, d) := rfl
  have HTD := Lib.hid htd; clear htd
  go_enter Tryd.func5, Tryd.ntmps5
  go_wp2_with fail
  refine (laws_toDate.calls _ _ _ _ _ _ _ HTD.out).mono ?_; rintro e w2 ⟨rfl, hd⟩; have HD := Lib.hid hd; obtain ⟨hc, hf⟩ := bcell hd; clear hd
  go_wp2_with fail
  refine (spec_DayOf.calls _ _ _ _ _ _ _ _ HS.out).mono ?_; rintro e w3 ⟨rfl, hd⟩; have HD3 := Lib.hid (below_step HD.out hd); obtain ⟨hc3, hf3⟩ := bcell (below_step HD.out hd); clear hd hc hf
  go_wp2_with fail
  refine (laws_toDate.calls _ _ _ _ _ _ _ HTD.out).mono ?_; rintro e w4 ⟨rfl, hd⟩; have HD4 := Lib.hid (below_step HD3.out hd); clear hd hc3 hf3
  go_wp2_with fail
  refine (HC.out _ (HT.out.below HD4.out)).mono ?_; rintro e w5 ⟨rfl, hd⟩; have HD5 := Lib.hid (below_step HD4.out hd); clear hd
  cases B
  all_goals
    go_wp2_with fail
    go_ret
    exact ⟨rfl, below_step HB.out HD5.out⟩
end Go.Proofs.YtmpimcfmhpfkaaaDoor.PFnExactDayOf
