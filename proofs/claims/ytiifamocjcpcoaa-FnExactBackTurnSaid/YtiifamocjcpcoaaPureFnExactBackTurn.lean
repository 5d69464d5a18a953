/- The plain law of FnExactBackTurn: what the program computes is what the reference computes, for every input (no further condition). -/
import Derived.Test.YtiifamocjcpcoaaMFnExactBackTurna7
namespace Go.Proofs.Ytiifamocjcpcoaa.Pure
open Go.RowKit Go.Proofs.Ytiifamocjcpcoaa.PFnExactBackTurn Go.Proofs.YtiifamocjcpcoaaW.PrintWords Go.Proofs.YtiifamocjcpcoaaW.PrintLast

set_option linter.unusedVariables false
set_option linter.unusedSimpArgs false
/-! plain facts on whole numbers -/
theorem wrap_id {x : Int} (h1 : -9223372036854775808 ≤ x) (h2 : x ≤ 9223372036854775807) : wrap64 x = x := by
  unfold wrap64; omega
theorem td_pos {a b : Int} (h : 0 ≤ a) : a.tdiv b = a / b := Int.tdiv_eq_ediv_of_nonneg h
theorem td_neg {a b : Int} (h : a ≤ 0) : a.tdiv b = -((-a) / b) := by
  rw [← Int.tdiv_eq_ediv_of_nonneg (by omega : 0 ≤ -a), Int.neg_tdiv]; omega
theorem tm_pos {a b : Int} (h : 0 ≤ a) : a.tmod b = a % b := Int.tmod_eq_emod_of_nonneg h
theorem tm_neg {a b : Int} (h : a ≤ 0) : a.tmod b = -((-a) % b) := by
  rw [← Int.tmod_eq_emod_of_nonneg (by omega : 0 ≤ -a), Int.neg_tmod]; omega
theorem tm_zero (a b : Int) : a.tmod b = 0 ↔ a % b = 0 := by
  rw [← Int.dvd_iff_tmod_eq_zero, ← Int.dvd_iff_emod_eq_zero]
theorem ediv_is {a b q r : Int} (hb : 0 < b) (h : a = b * q + r) (h0 : 0 ≤ r) (h1 : r < b) : a / b = q := by
  rw [h, Int.add_comm, Int.add_mul_ediv_left _ _ (by omega), Int.ediv_eq_zero_of_lt h0 h1]; omega
theorem ediv_neg_of {a b : Int} (hb : 0 < b) (h : a.tmod b = 0) : a.tdiv b = a / b := by
  have e := Int.mul_tdiv_add_tmod a b
  rw [h] at e
  exact (ediv_is hb (q := a.tdiv b) (r := 0) (by omega) (by omega) hb).symm
theorem ediv_floor {a b : Int} (hb : 0 < b) (ha : a < 0) (h : a.tmod b ≠ 0) : a.tdiv b - 1 = a / b := by
  have e := Int.mul_tdiv_add_tmod a b
  have hm := tm_neg (a := a) (b := b) (by omega)
  have h0 := Int.emod_nonneg (-a) (by omega : b ≠ 0)
  have h1 := Int.emod_lt_of_pos (-a) hb
  refine (ediv_is hb (q := a.tdiv b - 1) (r := a.tmod b + b) ?_ (by omega) (by omega)).symm
  rw [Int.mul_sub]; omega
/-- The floor, as both programs reckon it. -/
theorem floor_is {a b : Int} (hb : 0 < b) (h1 : -4611686018427387904 ≤ a) (h2 : a ≤ 4611686018427387904) :
    (if b = 0 then (none) else (if (Int.tmod a b) = 0 then (some (wrap64 (Int.tdiv a b))) else (if ((decide (a < 0)) != (decide (b < 0))) = true then (some (wrap64 ((wrap64 (Int.tdiv a b)) - 1))) else (some (wrap64 (Int.tdiv a b)))))) = some (a / b) := by
  have hle : a / b ≤ 4611686018427387904 := by
    by_cases h : 0 ≤ a
    · exact Int.le_trans (Int.ediv_le_self b h) h2
    · have := Int.ediv_neg_of_neg_of_pos (by omega : a < 0) hb; omega
  have hge : -4611686018427387904 ≤ a / b := by
    by_cases h : 0 ≤ a
    · have := Int.ediv_nonneg h (by omega : 0 ≤ b); omega
    · exact Int.le_ediv_of_mul_le hb (by have : -4611686018427387904 * b ≤ -4611686018427387904 * 1 := by omega
                                         omega)
  rw [if_neg (by omega : ¬ b = 0)]
  by_cases hm : Int.tmod a b = 0
  · rw [if_pos hm, ediv_neg_of hb hm, wrap_id (by omega) (by omega)]
  · rw [if_neg hm]
    by_cases ha : a < 0
    · have e := ediv_floor hb ha hm
      rw [if_pos (by simp [ha]; omega), wrap_id (x := Int.tdiv a b) (by omega) (by omega), e, wrap_id (by omega) (by omega)]
    · rw [if_neg (by simp [ha]; omega), td_pos (by omega), wrap_id (by omega) (by omega)]

def mostI (k : Int) : Int := if k = 1 then 1000 else 200
/-- What GoodTurn says. -/
def goodTurnB (k a m : Int) (d : Bool) : Bool := decide ((k = 1 ∨ k = 2) ∧ 1 ≤ a ∧ a ≤ mostI k ∧ 1 ≤ m ∧ m ≤ 100 ∧ (d = true → a + m - 1 ≤ mostI k))
theorem most_le (k : Int) : 200 ≤ mostI k ∧ mostI k ≤ 1000 := by unfold mostI; split <;> omega
theorem implMost_is (k a m : Int) (d : Bool) : impl_Turn_most.f k a m d = some (mostI k) := by
  unfold impl_Turn_most.f mostI; split <;> rfl
theorem specMost_is (k : Int) : spec_l5Limit.f k = some (mostI k) := by
  unfold spec_l5Limit.f mostI; split <;> rfl
theorem specGoodTurn_is (k a m : Int) (d : Bool) : spec_GoodTurn.f k a m d = some (goodTurnB k a m d) := by
  unfold spec_GoodTurn.f goodTurnB
  have hm := most_le k
  simp only [specMost_is, Option.bind_some]
  by_cases k12 : k = 1 ∨ k = 2
  · have e : ∀ x : Option Bool, (if k = 1 then x else if k = 2 then x else some false) = x := by
      intro x; by_cases k1 : k = 1
      · rw [if_pos k1]
      · rw [if_neg k1, if_pos (by omega)]
    rw [e]
    by_cases m1 : m < 1
    · rw [if_pos m1]; congr 1; symm; rw [decide_eq_false_iff_not]; omega
    rw [if_neg m1]
    by_cases m2 : m > 100
    · rw [if_pos m2]; congr 1; symm; rw [decide_eq_false_iff_not]; omega
    rw [if_neg m2]
    by_cases a1 : a < 1
    · rw [if_pos a1]; congr 1; symm; rw [decide_eq_false_iff_not]; omega
    rw [if_neg a1]
    by_cases a2 : a > mostI k
    · rw [if_pos a2]; congr 1; symm; rw [decide_eq_false_iff_not]; omega
    rw [if_neg a2, wrap_id (x := a + m) (by omega) (by omega), wrap_id (x := a + m - 1) (by omega) (by omega)]
    cases d with
    | false => rw [if_neg (by decide)]; congr 1; symm; rw [decide_eq_true_eq]; exact ⟨k12, by omega, by omega, by omega, by omega, fun h => by cases h⟩
    | true =>
      rw [if_pos rfl]; congr 1
      rw [decide_eq_decide]
      exact ⟨fun h => ⟨k12, by omega, by omega, by omega, by omega, fun _ => h⟩, fun h => h.2.2.2.2.2 rfl⟩
  · rw [if_neg (by omega), if_neg (by omega)]; congr 1; symm; rw [decide_eq_false_iff_not]; omega
theorem implGoodTurn_is (k a m : Int) (d : Bool) : impl_GoodTurn.f k a m d = some (goodTurnB k a m d) := by
  unfold impl_GoodTurn.f goodTurnB
  have hm := most_le k
  simp only [implMost_is, Option.bind_some]
  by_cases k12 : k = 1 ∨ k = 2
  · have e : ∀ x : Option Bool, (if k = 1 then x else if k = 2 then x else some false) = x := by
      intro x; by_cases k1 : k = 1
      · rw [if_pos k1]
      · rw [if_neg k1, if_pos (by omega)]
    rw [e]
    by_cases a1 : a < 1
    · rw [if_pos a1]; congr 1; symm; rw [decide_eq_false_iff_not]; omega
    rw [if_neg a1]
    by_cases a2 : a > mostI k
    · rw [if_pos a2]; congr 1; symm; rw [decide_eq_false_iff_not]; omega
    rw [if_neg a2]
    by_cases m1 : m < 1
    · rw [if_pos m1]; congr 1; symm; rw [decide_eq_false_iff_not]; omega
    rw [if_neg m1]
    by_cases m2 : m > 100
    · rw [if_pos m2]; congr 1; symm; rw [decide_eq_false_iff_not]; omega
    rw [if_neg m2, wrap_id (x := a + m) (by omega) (by omega), wrap_id (x := a + m - 1) (by omega) (by omega)]
    cases d with
    | false => rw [if_neg (by decide)]; congr 1; symm; rw [decide_eq_true_eq]; exact ⟨k12, by omega, by omega, by omega, by omega, fun h => by cases h⟩
    | true =>
      rw [if_pos rfl]; congr 1
      rw [decide_eq_decide]
      exact ⟨fun h => ⟨k12, by omega, by omega, by omega, by omega, fun _ => h⟩, fun h => h.2.2.2.2.2 rfl⟩
  · rw [if_neg (by omega), if_neg (by omega)]; congr 1; symm; rw [decide_eq_false_iff_not]; omega

theorem eqTurn_is (k a m : Int) (d : Bool) : laws_eqTurn.f k a m d k a m d = some true := by
  unfold laws_eqTurn.f; simp
theorem backTurn_same (k a m : Int) (d : Bool) : impl_BackTurn.f k a m d = spec_BackTurn.f k a m d := by
  unfold impl_BackTurn.f spec_BackTurn.f
  simp only [specGoodTurn_is, implGoodTurn_is]
theorem backTurn_ends (k a m : Int) (d : Bool) : ∃ x1 x2 x3 x4, spec_BackTurn.f k a m d = some (x1, x2, x3, x4) := by
  unfold spec_BackTurn.f
  simp only [specGoodTurn_is, Option.bind_some]
  cases goodTurnB k a m d
  · exact ⟨_, _, _, _, rfl⟩
  · cases goodTurnB k a m (!d) <;> exact ⟨_, _, _, _, rfl⟩
theorem FnExactBackTurn : ∀ (a0_0 : Int) (a0_1 : Int) (a0_2 : Int) (a0_3 : Bool), (Lit.int .i64 a0_0).wf = true → (Lit.int .i64 a0_1).wf = true → (Lit.int .i64 a0_2).wf = true → laws_FnExactBackTurn.f a0_0 a0_1 a0_2 a0_3 = some true := by
  intro k a m d _ _ _
  unfold laws_FnExactBackTurn.f laws_toTurn.f
  obtain ⟨x1, x2, x3, x4, h⟩ := backTurn_ends k a m d
  simp only [Option.bind_some, backTurn_same, h, eqTurn_is, if_true]

end Go.Proofs.Ytiifamocjcpcoaa.Pure
