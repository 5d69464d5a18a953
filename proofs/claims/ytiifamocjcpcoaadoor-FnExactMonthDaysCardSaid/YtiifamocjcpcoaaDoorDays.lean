/- Walks of impl.monthDays, impl.MonthDays and of the law FnExactMonthDays, over the table that the program lays; the callees by the printed contracts. Condition: the table's cells hold the months' lengths. -/
import Derived.Test.YtiifamocjcpcoaaDoorPFnExactMonthDaysx1
import Derived.Lib.Hide
namespace Go.Proofs.YtiifamocjcpcoaaDoor.PFnExactMonthDays
open Go.RowKit Go.Proofs.YtiifamocjcpcoaaDoorW.PrintWords Go.Proofs.YtiifamocjcpcoaaDoorW.PrintLast Go.Proofs.YtiifamocjcpcoaaDoorW.PrintMore
set_option linter.unusedVariables false
set_option linter.unusedSimpArgs false
/-! plain facts on whole numbers -/
theorem wrap_id {x : Int} (h1 : -9223372036854775808 ≤ x) (h2 : x ≤ 9223372036854775807) : wrap64 x = x := by
  unfold wrap64; omega
theorem td_pos {a b : Int} (h : 0 ≤ a) : a.tdiv b = a / b := Int.tdiv_eq_ediv_of_nonneg h
theorem td_neg {a b : Int} (h : a ≤ 0) : a.tdiv b = -((-a) / b) := by
  rw [← Int.tdiv_eq_ediv_of_nonneg (by omega : 0 ≤ -a), Int.neg_tdiv]; omega
theorem tm_pos {a b : Int} (h : 0 ≤ a) : a.tmod b = a % b := Int.tmod_eq_emod_of_nonneg h
theorem tm_neg {a b : Int} (h : a ≤ 0) : a.tmod b = -((-a) % b) := by
  rw [← Int.tmod_eq_emod_of_nonneg (by omega : 0 ≤ -a), Int.neg_tmod]; omega
theorem tm_zero (a b : Int) : a.tmod b = 0 ↔ a % b = 0 := by
  rw [← Int.dvd_iff_tmod_eq_zero, ← Int.dvd_iff_emod_eq_zero]
theorem ediv_is {a b q r : Int} (hb : 0 < b) (h : a = b * q + r) (h0 : 0 ≤ r) (h1 : r < b) : a / b = q := by
  rw [h, Int.add_comm, Int.add_mul_ediv_left _ _ (by omega), Int.ediv_eq_zero_of_lt h0 h1]; omega
theorem ediv_neg_of {a b : Int} (hb : 0 < b) (h : a.tmod b = 0) : a.tdiv b = a / b := by
  have e := Int.mul_tdiv_add_tmod a b
  rw [h] at e
  exact (ediv_is hb (q := a.tdiv b) (r := 0) (by omega) (by omega) hb).symm
theorem ediv_floor {a b : Int} (hb : 0 < b) (ha : a < 0) (h : a.tmod b ≠ 0) : a.tdiv b - 1 = a / b := by
  have e := Int.mul_tdiv_add_tmod a b
  have hm := tm_neg (a := a) (b := b) (by omega)
  have h0 := Int.emod_nonneg (-a) (by omega : b ≠ 0)
  have h1 := Int.emod_lt_of_pos (-a) hb
  refine (ediv_is hb (q := a.tdiv b - 1) (r := a.tmod b + b) ?_ (by omega) (by omega)).symm
  rw [Int.mul_sub]; omega
/-- The floor, as both programs reckon it. -/
theorem floor_is {a b : Int} (hb : 0 < b) (h1 : -4611686018427387904 ≤ a) (h2 : a ≤ 4611686018427387904) :
    (if b = 0 then (none) else (if (Int.tmod a b) = 0 then (some (wrap64 (Int.tdiv a b))) else (if ((decide (a < 0)) != (decide (b < 0))) = true then (some (wrap64 ((wrap64 (Int.tdiv a b)) - 1))) else (some (wrap64 (Int.tdiv a b)))))) = some (a / b) := by
  have hle : a / b ≤ 4611686018427387904 := by
    by_cases h : 0 ≤ a
    · exact Int.le_trans (Int.ediv_le_self b h) h2
    · have := Int.ediv_neg_of_neg_of_pos (by omega : a < 0) hb; omega
  have hge : -4611686018427387904 ≤ a / b := by
    by_cases h : 0 ≤ a
    · have := Int.ediv_nonneg h (by omega : 0 ≤ b); omega
    · exact Int.le_ediv_of_mul_le hb (by have : -4611686018427387904 * b ≤ -4611686018427387904 * 1 := by omega
                                         omega)
  rw [if_neg (by omega : ¬ b = 0)]
  by_cases hm : Int.tmod a b = 0
  · rw [if_pos hm, ediv_neg_of hb hm, wrap_id (by omega) (by omega)]
  · rw [if_neg hm]
    by_cases ha : a < 0
    · have e := ediv_floor hb ha hm
      rw [if_pos (by simp [ha]; omega), wrap_id (x := Int.tdiv a b) (by omega) (by omega), e, wrap_id (by omega) (by omega)]
    · rw [if_neg (by simp [ha]; omega), td_pos (by omega), wrap_id (by omega) (by omega)]

def ml (m : Int) : Int := if m = 2 then 28 else if m = 4 ∨ m = 6 ∨ m = 9 ∨ m = 11 then 30 else 31
def Tab (w : World) : Prop := ∀ m : Int, 1 ≤ m → m ≤ 12 → w.cell? ⟨0, (m - 1).toNat, none⟩ = some (.int .i64 (ml m))
theorem Tab.below {w w' : World} (h : Tab w) (hb : Below w.heap.size w w') : Tab w' := fun m h1 h2 => pw_cell_below hb (h m h1 h2)
def mdV (m : Int) (L : Bool) : Int := if m = 2 ∧ L = true then ml m + 1 else ml m
set_option maxHeartbeats 1000000 in
theorem monthDays_calls (c y m : Int) (w : World) (h1 : 1 ≤ m) (h2 : m ≤ 12) (hT : Tab w) (L : Bool) (hL : impl_leap.f c y = some L) :
    Calls Tryd.prog 10 #[.int .i64 c, .int .i64 y, .int .i64 m] w fun e w' => e = .returned (.int .i64 (mdV m L)) ∧ Drawn0 w w' := by
  rcases (by omega : m = 1 ∨ m = 2 ∨ m = 3 ∨ m = 4 ∨ m = 5 ∨ m = 6 ∨ m = 7 ∨ m = 8 ∨ m = 9 ∨ m = 10 ∨ m = 11 ∨ m = 12) with rfl | rfl | rfl | rfl | rfl | rfl | rfl | rfl | rfl | rfl | rfl | rfl
  case inr.inl =>
    have hc := hT _ h1 h2
    simp [ml] at hc
    cases L
    all_goals
      go_enter Tryd.func10, Tryd.ntmps10
      go_wp2_with (go_at_call 12; refine (impl_leap.calls _ _ _ _ hL).mono ?_; rintro e w' ⟨rfl, hd⟩)
      go_ret
      exact ⟨rfl, hd⟩
  all_goals
    have hc := hT _ h1 h2
    simp [ml] at hc
    go_enter Tryd.func10, Tryd.ntmps10
    go_wp2_with fail
    go_ret
    exact ⟨rfl, Drawn0.refl _⟩
def MDV (c y m : Int) (G L : Bool) : Int := if G = true ∧ 1 ≤ m ∧ m ≤ 12 then mdV m L else 0
set_option maxHeartbeats 1000000 in
theorem MonthDays_calls (c y m : Int) (w : World) (hT : Tab w) (G L : Bool) (hG : impl_goodYear.f c y = some G) (hL : impl_leap.f c y = some L) :
    Calls Tryd.prog 5 #[.int .i64 c, .int .i64 y, .int .i64 m] w fun e w' => e = .returned (.int .i64 (MDV c y m G L)) ∧ Below w.heap.size w w' := by
  cases G
  · have e0 : MDV c y m false L = 0 := by unfold MDV; rw [if_neg (by simp)]
    rw [e0]
    go_enter Tryd.func5, Tryd.ntmps5
    go_wp2_with (go_at_call 9; refine (impl_goodYear.calls _ _ _ _ hG).mono ?_; rintro e w' ⟨rfl, hd⟩)
    go_ret
    exact ⟨rfl, hd.below⟩
  · by_cases h1 : m < 1
    · have e0 : MDV c y m true L = 0 := by unfold MDV; rw [if_neg (by omega)]
      rw [e0]
      have b1 : decide (m < 1) = true := decide_eq_true h1
      go_enter Tryd.func5, Tryd.ntmps5
      go_wp2_with (go_at_call 9; refine (impl_goodYear.calls _ _ _ _ hG).mono ?_; rintro e w' ⟨rfl, hd⟩)
      go_ret
      exact ⟨rfl, hd.below⟩
    · by_cases h2 : m > 12
      · have e0 : MDV c y m true L = 0 := by unfold MDV; rw [if_neg (by omega)]
        rw [e0]
        have b1 : decide (m < 1) = false := decide_eq_false h1
        have b2 : decide (12 < m) = true := decide_eq_true h2
        go_enter Tryd.func5, Tryd.ntmps5
        go_wp2_with (go_at_call 9; refine (impl_goodYear.calls _ _ _ _ hG).mono ?_; rintro e w' ⟨rfl, hd⟩)
        go_ret
        exact ⟨rfl, hd.below⟩
      · have e0 : MDV c y m true L = mdV m L := by unfold MDV; rw [if_pos ⟨rfl, by omega, by omega⟩]
        rw [e0]
        have b1 : decide (m < 1) = false := decide_eq_false h1
        have b2 : decide (12 < m) = false := decide_eq_false h2
        go_enter Tryd.func5, Tryd.ntmps5
        go_wp2_with (first
          | (go_at_call 9; refine (impl_goodYear.calls _ _ _ _ hG).mono ?_; rintro e w' ⟨rfl, hd⟩)
          | (go_at_call 10; refine (monthDays_calls _ _ _ _ (by omega) (by omega) (hT.below hd.below) _ hL).mono ?_; rintro e w2 ⟨rfl, hd2⟩))
        go_ret
        exact ⟨rfl, below_step hd.below hd2.below⟩
def leapB (c y : Int) : Bool := decide (Int.tmod y 4 = 0 ∧ (c = 2 ∨ ¬ Int.tmod y 100 = 0 ∨ Int.tmod y 400 = 0))
def goodYearB (c y : Int) : Bool := decide ((c = 1 ∨ c = 2) ∧ -5000 ≤ y ∧ y ≤ 9999)
theorem implLeap_is (c y : Int) : impl_leap.f c y = some (leapB c y) := by
  unfold impl_leap.f leapB
  by_cases h4 : Int.tmod y 4 = 0
  · by_cases h2 : c = 2
    · simp [h4, h2]
    · by_cases h100 : Int.tmod y 100 = 0
      · simp [h4, h2, h100]; rw [Bool.eq_iff_iff]; simp
      · simp [h4, h2, h100]
  · simp [h4]
theorem implGoodYear_is (c y : Int) : impl_goodYear.f c y = some (goodYearB c y) := by
  unfold impl_goodYear.f goodYearB
  by_cases h1 : c = 1
  · by_cases h3 : -5000 ≤ y <;> simp [h1, h3]
  · by_cases h2 : c = 2
    · by_cases h3 : -5000 ≤ y <;> simp [h2, h3]
    · simp [h1, h2]
theorem l2Mod_is (a b : Int) (hb : 0 < b) (hb2 : b ≤ 1000) (h1 : -1000000000 ≤ a) (h2 : a ≤ 1000000000) : spec_l2Mod.f a b = some (a % b) := by
  unfold spec_l2Mod.f spec_l2Floor.f
  rw [floor_is hb (by omega) (by omega)]
  simp only [Option.bind_some]
  have e := Int.mul_ediv_add_emod a b
  have h0 := Int.emod_nonneg a (by omega : b ≠ 0)
  have h1 := Int.emod_lt_of_pos a hb
  rw [wrap_id (x := b * (a / b)) (by omega) (by omega), wrap_id (by omega) (by omega)]
  congr 1; omega
theorem specLeap_is (c y : Int) (h1 : -1000000000 ≤ y) (h2 : y ≤ 1000000000) : spec_l2Leap.f c y = some (leapB c y) := by
  unfold spec_l2Leap.f leapB
  rw [l2Mod_is y 4 (by omega) (by omega) h1 h2, l2Mod_is y 100 (by omega) (by omega) h1 h2, l2Mod_is y 400 (by omega) (by omega) h1 h2]
  simp only [Option.bind_some, tm_zero]
  have b4 : ((y % 4) == 0) = decide (y % 4 = 0) := by rw [Bool.eq_iff_iff]; simp
  have b400 : ((y % 400) == 0) = decide (y % 400 = 0) := by rw [Bool.eq_iff_iff]; simp
  rw [b4, b400]
  by_cases hc : c = 2
  · simp [hc]
  · by_cases h4 : y % 4 = 0
    · by_cases h100 : y % 100 = 0
      · simp [hc, h4, h100]
      · simp [hc, h4, h100]
    · have : ¬ y % 400 = 0 := by omega
      simp [hc, h4, this]
theorem rd_months (m : Int) (h1 : 1 ≤ m) (h2 : m ≤ 12) : rd [31, 28, 31, 30, 31, 30, 31, 31, 30, 31, 30, 31] (m - 1) = ml m := by
  rcases (by omega : m = 1 ∨ m = 2 ∨ m = 3 ∨ m = 4 ∨ m = 5 ∨ m = 6 ∨ m = 7 ∨ m = 8 ∨ m = 9 ∨ m = 10 ∨ m = 11 ∨ m = 12) with rfl | rfl | rfl | rfl | rfl | rfl | rfl | rfl | rfl | rfl | rfl | rfl <;> rfl
theorem ml_le (m : Int) : 28 ≤ ml m ∧ ml m ≤ 31 := by unfold ml; split <;> (try split) <;> omega
theorem mdV_le (m : Int) (L : Bool) : 28 ≤ mdV m L ∧ mdV m L ≤ 31 := by
  unfold mdV; split
  · rename_i h; unfold ml; rw [if_pos h.1]; omega
  · exact ml_le m
theorem specMonthDays1_is (c y m : Int) (h1 : -1000000000 ≤ y) (h2 : y ≤ 1000000000) (m1 : 1 ≤ m) (m2 : m ≤ 12) : spec_l2MonthDays.f c y m = some (mdV m (leapB c y)) := by
  unfold spec_l2MonthDays.f mdV
  have hm := ml_le m
  simp only [Option.bind_some]
  rw [wrap_id (x := m - 1) (by omega) (by omega), if_pos (by omega), if_pos (by simp; omega), specLeap_is c y h1 h2, rd_months m m1 m2]
  simp only [Option.bind_some]
  rw [wrap_id (x := ml m + 1) (by omega) (by omega)]
  by_cases e : m = 2
  · cases leapB c y <;> simp [e]
  · simp [e]
theorem specCal_is (c : Int) : spec_l2Cal.f c = some (decide (c = 1 ∨ c = 2)) := by
  unfold spec_l2Cal.f
  by_cases c1 : c = 1
  · simp [c1]
  · by_cases c2 : c = 2 <;> simp [c1, c2]
theorem specYear_is (y : Int) : spec_l2Year.f y = some (decide (-5000 ≤ y ∧ y ≤ 9999)) := by
  unfold spec_l2Year.f
  by_cases h1 : -5000 ≤ y <;> simp [h1]
theorem specMonthDays_is (c y m : Int) : spec_MonthDays.f c y m = some (MDV c y m (goodYearB c y) (leapB c y)) := by
  unfold spec_MonthDays.f MDV goodYearB
  simp only [specCal_is, specYear_is, Option.bind_some, decide_eq_true_eq]
  by_cases hc : c = 1 ∨ c = 2
  · by_cases hy : -5000 ≤ y ∧ y ≤ 9999
    · by_cases m1 : m < 1
      · rw [if_pos hc, if_pos hy, if_pos m1, if_neg (by omega)]
      · by_cases m2 : m > 12
        · rw [if_pos hc, if_pos hy, if_neg m1, if_pos m2, if_neg (by omega)]
        · rw [if_pos hc, if_pos hy, if_neg m1, if_neg m2, if_pos ⟨⟨hc, hy⟩, by omega, by omega⟩, specMonthDays1_is c y m (by omega) (by omega) (by omega) (by omega)]; rfl
    · rw [if_pos hc, if_neg hy, if_neg (fun h => hy h.1.2)]
  · rw [if_neg hc, if_neg (fun h => hc h.1.1)]
set_option maxHeartbeats 1000000 in
theorem law_calls (c y m : Int) (w : World) (hT : Tab w) :
    Calls Tryd.prog 3 #[.int .i64 c, .int .i64 y, .int .i64 m] w fun e w' => e = .returned (.bool true) ∧ Below w.heap.size w w' := by
  have hs := specMonthDays_is c y m
  generalize hr : MDV c y m (goodYearB c y) (leapB c y) = r at hs
  have Hr := Lib.hid hr; clear hr
  go_enter Tryd.func3, Tryd.ntmps3
  go_wp2_with (first
    | (go_at_call 4; refine (spec_MonthDays.calls _ _ _ _ _ hs).mono ?_; rintro e w' ⟨rfl, hd⟩)
    | (go_at_call 5; refine (MonthDays_calls _ _ _ _ (hT.below hd) _ _ (implGoodYear_is c y) (implLeap_is c y)).mono ?_; rw [Hr.out]; rintro e w2 ⟨rfl, hd2⟩))
  go_ret
  exact ⟨rfl, below_step hd hd2⟩
end Go.Proofs.YtiifamocjcpcoaaDoor.PFnExactMonthDays
