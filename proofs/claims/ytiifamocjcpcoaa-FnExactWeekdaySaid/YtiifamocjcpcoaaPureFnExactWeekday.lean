/- The plain law of FnExactWeekday: what the program computes is what the reference computes, for every input (no further condition). -/
import Derived.Test.YtiifamocjcpcoaaPFnExactWeekdayx1
namespace Go.Proofs.Ytiifamocjcpcoaa.Pure
open Go.RowKit Go.Proofs.Ytiifamocjcpcoaa.PFnExactWeekday Go.Proofs.YtiifamocjcpcoaaW.PrintWords Go.Proofs.YtiifamocjcpcoaaW.PrintLast

/-! plain facts on whole numbers -/
theorem wrap_id {x : Int} (h1 : -9223372036854775808 ≤ x) (h2 : x ≤ 9223372036854775807) : wrap64 x = x := by
  unfold wrap64; omega
theorem td_pos {a b : Int} (h : 0 ≤ a) : a.tdiv b = a / b := Int.tdiv_eq_ediv_of_nonneg h
theorem td_neg {a b : Int} (h : a ≤ 0) : a.tdiv b = -((-a) / b) := by
  rw [← Int.tdiv_eq_ediv_of_nonneg (by omega : 0 ≤ -a), Int.neg_tdiv]; omega
theorem tm_pos {a b : Int} (h : 0 ≤ a) : a.tmod b = a % b := Int.tmod_eq_emod_of_nonneg h
theorem tm_neg {a b : Int} (h : a ≤ 0) : a.tmod b = -((-a) % b) := by
  rw [← Int.tmod_eq_emod_of_nonneg (by omega : 0 ≤ -a), Int.neg_tmod]; omega
theorem tm_zero (a b : Int) : a.tmod b = 0 ↔ a % b = 0 := by
  rw [← Int.dvd_iff_tmod_eq_zero, ← Int.dvd_iff_emod_eq_zero]
theorem ediv_is {a b q r : Int} (hb : 0 < b) (h : a = b * q + r) (h0 : 0 ≤ r) (h1 : r < b) : a / b = q := by
  rw [h, Int.add_comm, Int.add_mul_ediv_left _ _ (by omega), Int.ediv_eq_zero_of_lt h0 h1]; omega
theorem ediv_neg_of {a b : Int} (hb : 0 < b) (h : a.tmod b = 0) : a.tdiv b = a / b := by
  have e := Int.mul_tdiv_add_tmod a b
  rw [h] at e
  exact (ediv_is hb (q := a.tdiv b) (r := 0) (by omega) (by omega) hb).symm
theorem ediv_floor {a b : Int} (hb : 0 < b) (ha : a < 0) (h : a.tmod b ≠ 0) : a.tdiv b - 1 = a / b := by
  have e := Int.mul_tdiv_add_tmod a b
  have hm := tm_neg (a := a) (b := b) (by omega)
  have h0 := Int.emod_nonneg (-a) (by omega : b ≠ 0)
  have h1 := Int.emod_lt_of_pos (-a) hb
  refine (ediv_is hb (q := a.tdiv b - 1) (r := a.tmod b + b) ?_ (by omega) (by omega)).symm
  rw [Int.mul_sub]; omega
/-- The floor, as both programs reckon it. -/
theorem floor_is {a b : Int} (hb : 0 < b) (h1 : -4611686018427387904 ≤ a) (h2 : a ≤ 4611686018427387904) :
    (if b = 0 then (none) else (if (Int.tmod a b) = 0 then (some (wrap64 (Int.tdiv a b))) else (if ((decide (a < 0)) != (decide (b < 0))) = true then (some (wrap64 ((wrap64 (Int.tdiv a b)) - 1))) else (some (wrap64 (Int.tdiv a b)))))) = some (a / b) := by
  have hle : a / b ≤ 4611686018427387904 := by
    by_cases h : 0 ≤ a
    · exact Int.le_trans (Int.ediv_le_self b h) h2
    · have := Int.ediv_neg_of_neg_of_pos (by omega : a < 0) hb; omega
  have hge : -4611686018427387904 ≤ a / b := by
    by_cases h : 0 ≤ a
    · have := Int.ediv_nonneg h (by omega : 0 ≤ b); omega
    · exact Int.le_ediv_of_mul_le hb (by have : -4611686018427387904 * b ≤ -4611686018427387904 * 1 := by omega
                                         omega)
  rw [if_neg (by omega : ¬ b = 0)]
  by_cases hm : Int.tmod a b = 0
  · rw [if_pos hm, ediv_neg_of hb hm, wrap_id (by omega) (by omega)]
  · rw [if_neg hm]
    by_cases ha : a < 0
    · have e := ediv_floor hb ha hm
      rw [if_pos (by simp [ha]; omega), wrap_id (x := Int.tdiv a b) (by omega) (by omega), e, wrap_id (by omega) (by omega)]
    · rw [if_neg (by simp [ha]; omega), td_pos (by omega), wrap_id (by omega) (by omega)]

theorem l2Mod_is (a b : Int) (hb : 0 < b) (hb2 : b ≤ 1000) (h1 : -1000000000 ≤ a) (h2 : a ≤ 1000000000) : spec_l2Mod.f a b = some (a % b) := by
  unfold spec_l2Mod.f spec_l2Floor.f
  rw [floor_is hb (by omega) (by omega)]
  simp only [Option.bind_some]
  have e := Int.mul_ediv_add_emod a b
  have h0 := Int.emod_nonneg a (by omega : b ≠ 0)
  have h1 := Int.emod_lt_of_pos a hb
  rw [wrap_id (x := b * (a / b)) (by omega) (by omega), wrap_id (by omega) (by omega)]
  congr 1; omega
theorem floorMod_is (a b : Int) (hb : 0 < b) (hb2 : b ≤ 1000) (h1 : -1000000000 ≤ a) (h2 : a ≤ 1000000000) : impl_floorMod_int.f a b = some (a % b) := by
  unfold impl_floorMod_int.f impl_floorDiv_int.f
  rw [floor_is hb (by omega) (by omega)]
  simp only [Option.bind_some]
  have e := Int.mul_ediv_add_emod a b
  have h0 := Int.emod_nonneg a (by omega : b ≠ 0)
  have h1 := Int.emod_lt_of_pos a hb
  rw [Int.mul_comm (a / b) b, wrap_id (x := b * (a / b)) (by omega) (by omega), wrap_id (by omega) (by omega)]
  congr 1; omega
theorem FnExactWeekday : laws_FnExactWeekday.Pure := by
  intro d _
  unfold laws_FnExactWeekday.f spec_Weekday.f impl_Weekday.f spec_l2Day.f impl_isDay.f
  by_cases h1 : d ≥ -1000000
  · by_cases h2 : d ≤ 1000000
    · have w := wrap_id (x := d + 5) (by omega) (by omega)
      have e1 := l2Mod_is (d + 5) 7 (by omega) (by omega) (by omega) (by omega)
      have e2 := floorMod_is (d + 5) 7 (by omega) (by omega) (by omega) (by omega)
      simp [h1, h2, w, e1, e2]
    · simp [h1, h2]
  · simp [h1]

end Go.Proofs.Ytiifamocjcpcoaa.Pure
