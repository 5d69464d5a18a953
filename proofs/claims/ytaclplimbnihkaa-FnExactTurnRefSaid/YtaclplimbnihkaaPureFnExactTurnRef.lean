/- The plain law of FnExactTurnRef: what the program computes is what the reference computes, for every input (no further condition). -/
import Derived.Test.YtaclplimbnihkaaMFnExactTurnRefa9
namespace Go.Proofs.Ytaclplimbnihkaa.Pure
open Go.RowKit Go.Proofs.Ytaclplimbnihkaa.PFnExactTurnRef Go.Proofs.YtaclplimbnihkaaW.PrintWords Go.Proofs.YtaclplimbnihkaaW.PrintLast

set_option linter.unusedVariables false
set_option linter.unusedSimpArgs false
/-! plain facts on whole numbers -/
theorem wrap_id {x : Int} (h1 : -9223372036854775808 ≤ x) (h2 : x ≤ 9223372036854775807) : wrap64 x = x := by
  unfold wrap64; omega
theorem td_pos {a b : Int} (h : 0 ≤ a) : a.tdiv b = a / b := Int.tdiv_eq_ediv_of_nonneg h
theorem td_neg {a b : Int} (h : a ≤ 0) : a.tdiv b = -((-a) / b) := by
  rw [← Int.tdiv_eq_ediv_of_nonneg (by omega : 0 ≤ -a), Int.neg_tdiv]; omega
theorem tm_pos {a b : Int} (h : 0 ≤ a) : a.tmod b = a % b := Int.tmod_eq_emod_of_nonneg h
theorem tm_neg {a b : Int} (h : a ≤ 0) : a.tmod b = -((-a) % b) := by
  rw [← Int.tmod_eq_emod_of_nonneg (by omega : 0 ≤ -a), Int.neg_tmod]; omega
theorem tm_zero (a b : Int) : a.tmod b = 0 ↔ a % b = 0 := by
  rw [← Int.dvd_iff_tmod_eq_zero, ← Int.dvd_iff_emod_eq_zero]
theorem ediv_is {a b q r : Int} (hb : 0 < b) (h : a = b * q + r) (h0 : 0 ≤ r) (h1 : r < b) : a / b = q := by
  rw [h, Int.add_comm, Int.add_mul_ediv_left _ _ (by omega), Int.ediv_eq_zero_of_lt h0 h1]; omega
theorem ediv_neg_of {a b : Int} (hb : 0 < b) (h : a.tmod b = 0) : a.tdiv b = a / b := by
  have e := Int.mul_tdiv_add_tmod a b
  rw [h] at e
  exact (ediv_is hb (q := a.tdiv b) (r := 0) (by omega) (by omega) hb).symm
theorem ediv_floor {a b : Int} (hb : 0 < b) (ha : a < 0) (h : a.tmod b ≠ 0) : a.tdiv b - 1 = a / b := by
  have e := Int.mul_tdiv_add_tmod a b
  have hm := tm_neg (a := a) (b := b) (by omega)
  have h0 := Int.emod_nonneg (-a) (by omega : b ≠ 0)
  have h1 := Int.emod_lt_of_pos (-a) hb
  refine (ediv_is hb (q := a.tdiv b - 1) (r := a.tmod b + b) ?_ (by omega) (by omega)).symm
  rw [Int.mul_sub]; omega
/-- The floor, as both programs reckon it. -/
theorem floor_is {a b : Int} (hb : 0 < b) (h1 : -4611686018427387904 ≤ a) (h2 : a ≤ 4611686018427387904) :
    (if b = 0 then (none) else (if (Int.tmod a b) = 0 then (some (wrap64 (Int.tdiv a b))) else (if ((decide (a < 0)) != (decide (b < 0))) = true then (some (wrap64 ((wrap64 (Int.tdiv a b)) - 1))) else (some (wrap64 (Int.tdiv a b)))))) = some (a / b) := by
  have hle : a / b ≤ 4611686018427387904 := by
    by_cases h : 0 ≤ a
    · exact Int.le_trans (Int.ediv_le_self b h) h2
    · have := Int.ediv_neg_of_neg_of_pos (by omega : a < 0) hb; omega
  have hge : -4611686018427387904 ≤ a / b := by
    by_cases h : 0 ≤ a
    · have := Int.ediv_nonneg h (by omega : 0 ≤ b); omega
    · exact Int.le_ediv_of_mul_le hb (by have : -4611686018427387904 * b ≤ -4611686018427387904 * 1 := by omega
                                         omega)
  rw [if_neg (by omega : ¬ b = 0)]
  by_cases hm : Int.tmod a b = 0
  · rw [if_pos hm, ediv_neg_of hb hm, wrap_id (by omega) (by omega)]
  · rw [if_neg hm]
    by_cases ha : a < 0
    · have e := ediv_floor hb ha hm
      rw [if_pos (by simp [ha]; omega), wrap_id (x := Int.tdiv a b) (by omega) (by omega), e, wrap_id (by omega) (by omega)]
    · rw [if_neg (by simp [ha]; omega), td_pos (by omega), wrap_id (by omega) (by omega)]

def goodRefB (r c : Int) : Bool := decide (1 ≤ r ∧ r ≤ 1000 ∧ 1 ≤ c ∧ c ≤ 200)
theorem specGoodRef_is (r c : Int) (a b : Bool) : spec_GoodRef.f r c a b = some (goodRefB r c) := by
  unfold spec_GoodRef.f goodRefB
  by_cases h1 : 1 ≤ r <;> by_cases h2 : r ≤ 1000 <;> by_cases h3 : 1 ≤ c <;> by_cases h4 : c ≤ 200 <;> simp [h1, h2, h3, h4]
theorem implGoodRef_is (r c : Int) (a b : Bool) : impl_GoodRef.f r c a b = some (goodRefB r c) := by
  unfold impl_GoodRef.f impl_Ref_place.f impl_place_good.f goodRefB
  simp only [Option.bind_some]
  by_cases h1 : 1 ≤ r <;> by_cases h2 : r ≤ 1000 <;> by_cases h3 : 1 ≤ c <;> by_cases h4 : c ≤ 200 <;> simp [h1, h2, h3, h4]

theorem specMost_is (k : Int) : spec_l5Limit.f k = some (mostI k) := by
  unfold spec_l5Limit.f mostI; split <;> rfl
theorem implMost_is (k a m : Int) (d : Bool) : impl_Turn_most.f k a m d = some (mostI k) := by
  unfold impl_Turn_most.f mostI; split <;> rfl
theorem specGoodTurn_is (k a m : Int) (d : Bool) : spec_GoodTurn.f k a m d = some (goodTurnB k a m d) := rfl
theorem implGoodTurn_is (k a m : Int) (d : Bool) : impl_GoodTurn.f k a m d = some (goodTurnB k a m d) := by
  unfold impl_GoodTurn.f goodTurnB
  have hm := most_le k
  simp only [implMost_is, Option.bind_some]
  by_cases k12 : k = 1 ∨ k = 2
  · have e : ∀ x : Option Bool, (if k = 1 then x else if k = 2 then x else some false) = x := by
      intro x; by_cases k1 : k = 1
      · rw [if_pos k1]
      · rw [if_neg k1, if_pos (by omega)]
    rw [e]
    by_cases a1 : a < 1
    · rw [if_pos a1]; congr 1; symm; rw [decide_eq_false_iff_not]; omega
    rw [if_neg a1]
    by_cases a2 : a > mostI k
    · rw [if_pos a2]; congr 1; symm; rw [decide_eq_false_iff_not]; omega
    rw [if_neg a2]
    by_cases m1 : m < 1
    · rw [if_pos m1]; congr 1; symm; rw [decide_eq_false_iff_not]; omega
    rw [if_neg m1]
    by_cases m2 : m > 100
    · rw [if_pos m2]; congr 1; symm; rw [decide_eq_false_iff_not]; omega
    rw [if_neg m2, wrap_id (x := a + m) (by omega) (by omega), wrap_id (x := a + m - 1) (by omega) (by omega)]
    cases d with
    | false => rw [if_neg (by decide)]; congr 1; symm; rw [decide_eq_true_eq]; exact ⟨k12, by omega, by omega, by omega, by omega, fun h => by cases h⟩
    | true =>
      rw [if_pos rfl]; congr 1
      rw [decide_eq_decide]
      exact ⟨fun h => ⟨k12, by omega, by omega, by omega, by omega, fun _ => h⟩, fun h => h.2.2.2.2.2 rfl⟩
  · rw [if_neg (by omega), if_neg (by omega)]; congr 1; symm; rw [decide_eq_false_iff_not]; omega

theorem eqRef_is (r c : Int) (a b : Bool) : laws_eqRef.f r c a b r c a b = some true := by
  unfold laws_eqRef.f; simp

/-- Where TurnRef brings a line, and whether it is there still. -/
def lineV (k a m : Int) (d : Bool) (n : Int) : Int × Bool :=
  if n < a then (n, true) else if d = true then (if n < a + m then (0, false) else (n - m, true)) else (if n + m > mostI k then (0, false) else (n + m, true))
def turnRefV (k a m : Int) (d : Bool) (r c : Int) (x y : Bool) : Int × Int × Bool × Bool × Bool :=
  if goodTurnB k a m d && goodRefB r c then
    (if k = 1 then (if (lineV k a m d r).2 = true then ((lineV k a m d r).1, c, x, y, true) else (0, 0, false, false, false))
     else (if (lineV k a m d c).2 = true then (r, (lineV k a m d c).1, x, y, true) else (0, 0, false, false, false)))
  else (0, 0, false, false, false)
theorem goodTurn_facts {k a m : Int} {d : Bool} (h : goodTurnB k a m d = true) : (k = 1 ∨ k = 2) ∧ 1 ≤ a ∧ a ≤ mostI k ∧ 1 ≤ m ∧ m ≤ 100 ∧ (d = true → a + m - 1 ≤ mostI k) := by
  unfold goodTurnB at h; exact of_decide_eq_true h
theorem goodRef_facts {r c : Int} (h : goodRefB r c = true) : 1 ≤ r ∧ r ≤ 1000 ∧ 1 ≤ c ∧ c ≤ 200 := by
  unfold goodRefB at h; exact of_decide_eq_true h
theorem specTurn_is (k a m : Int) (d : Bool) (n : Int) (ha : 1 ≤ a ∧ a ≤ 1000) (hm : 1 ≤ m ∧ m ≤ 100) (hn : 1 ≤ n ∧ n ≤ 1000) : spec_l5Turn.f k a m d n = some (lineV k a m d n).1 := by
  unfold spec_l5Turn.f lineV
  simp only [specMost_is, Option.bind_some]
  rw [wrap_id (x := a + m) (by omega) (by omega), wrap_id (x := n - m) (by omega) (by omega), wrap_id (x := n + m) (by omega) (by omega)]
  repeat (first | rfl | split)
theorem implLine_is (k a m : Int) (d : Bool) (n : Int) (ha : 1 ≤ a ∧ a ≤ 1000) (hm : 1 ≤ m ∧ m ≤ 100) (hn : 1 ≤ n ∧ n ≤ 1000) :
    ∃ z, impl_Turn_line.f k a m d n = some (z, (lineV k a m d n).2) ∧ ((lineV k a m d n).2 = true → z = (lineV k a m d n).1) := by
  unfold impl_Turn_line.f lineV
  simp only [implMost_is, Option.bind_some]
  rw [wrap_id (x := a + m) (by omega) (by omega), wrap_id (x := n - m) (by omega) (by omega), wrap_id (x := n + m) (by omega) (by omega)]
  by_cases h1 : n < a
  · simp [h1]
  · cases d with
    | true =>
      by_cases h2 : n < a + m
      · have h3 : ¬ n ≥ a + m := by omega
        simp [h1, h2, h3]
      · have h3 : n ≥ a + m := by omega
        simp [h1, h2, h3]
    | false =>
      by_cases h2 : n + m > mostI k
      · have h3 : ¬ n + m ≤ mostI k := by omega
        simp [h1, h2, h3]
      · have h3 : n + m ≤ mostI k := by omega
        simp [h1, h2, h3]
theorem specTurnRef_is (q : Nat) (k a m : Int) (d : Bool) (r c : Int) (x y : Bool) : spec_TurnRef.f (q + 1) k a m d r c x y = some (turnRefV k a m d r c x y) := by
  unfold spec_TurnRef.f turnRefV
  simp only [specGoodTurn_is, specGoodRef_is, Option.bind_some]
  cases h1 : goodTurnB k a m d
  · simp [spec_TurnRef.j0]
  · cases h2 : goodRefB r c
    · simp [spec_TurnRef.j0]
    · have g1 := goodTurn_facts h1
      have g2 := goodRef_facts h2
      have hmo := most_le k
      have e1 := specTurn_is k a m d r ⟨by omega, by omega⟩ ⟨by omega, by omega⟩ ⟨by omega, by omega⟩
      have e2 := specTurn_is k a m d c ⟨by omega, by omega⟩ ⟨by omega, by omega⟩ ⟨by omega, by omega⟩
      simp only [if_true, spec_TurnRef.j0, Bool.not_true, Bool.false_eq_true, if_false, e1, e2, specGoodRef_is, Option.bind_some, Bool.and_self]
      by_cases hk : k = 1
      · rw [if_pos hk, if_pos hk]
        have hmk : mostI k = 1000 := by unfold mostI; rw [if_pos hk]
        have g : goodRefB (lineV k a m d r).1 c = (lineV k a m d r).2 := by
          unfold goodRefB lineV
          by_cases h3 : r < a
          · simp [h3]; omega
          · cases d with
            | true => by_cases h4 : r < a + m <;> simp [h3, h4] <;> omega
            | false => by_cases h4 : r + m > mostI k <;> simp [h3, h4] <;> omega
        rw [g]
        cases (lineV k a m d r).2 <;> simp
      · rw [if_neg hk, if_neg hk]
        have hmk : mostI k = 200 := by unfold mostI; rw [if_neg hk]
        have g : goodRefB r (lineV k a m d c).1 = (lineV k a m d c).2 := by
          unfold goodRefB lineV
          by_cases h3 : c < a
          · simp [h3]; omega
          · cases d with
            | true => by_cases h4 : c < a + m <;> simp [h3, h4] <;> omega
            | false => by_cases h4 : c + m > mostI k <;> simp [h3, h4] <;> omega
        rw [g]
        cases (lineV k a m d c).2 <;> simp
theorem implTurnRef_is (q : Nat) (k a m : Int) (d : Bool) (r c : Int) (x y : Bool) : impl_TurnRef.f (q + 2) k a m d r c x y = some (turnRefV k a m d r c x y) := by
  unfold impl_TurnRef.f turnRefV
  simp only [implGoodTurn_is, implGoodRef_is, Option.bind_some]
  cases h1 : goodTurnB k a m d
  · simp [impl_TurnRef.j0]
  · cases h2 : goodRefB r c
    · simp [impl_TurnRef.j0]
    · have g1 := goodTurn_facts h1
      have g2 := goodRef_facts h2
      have hmo := most_le k
      obtain ⟨z1, e1, f1⟩ := implLine_is k a m d r ⟨by omega, by omega⟩ ⟨by omega, by omega⟩ ⟨by omega, by omega⟩
      obtain ⟨z2, e2, f2⟩ := implLine_is k a m d c ⟨by omega, by omega⟩ ⟨by omega, by omega⟩ ⟨by omega, by omega⟩
      simp only [if_true, impl_TurnRef.j0, impl_TurnRef.j1, Bool.not_true, Bool.false_eq_true, if_false, e1, e2, Option.bind_some, Bool.and_self]
      by_cases hk : k = 1
      · rw [if_pos hk, if_pos hk]
        cases h3 : (lineV k a m d r).2
        · simp [hk]
        · rw [f1 h3]; simp [hk]
      · rw [if_neg hk, if_neg hk]
        cases h3 : (lineV k a m d c).2
        · simp [hk]
        · rw [f2 h3]; simp [hk]

theorem FnExactTurnRef : ∀ (a0_0 : Int) (a0_1 : Int) (a0_2 : Int) (a0_3 : Bool) (a1_0 : Int) (a1_1 : Int) (a1_2 : Bool) (a1_3 : Bool), (Lit.int .i64 a0_0).wf = true → (Lit.int .i64 a0_1).wf = true → (Lit.int .i64 a0_2).wf = true → (Lit.int .i64 a1_0).wf = true → (Lit.int .i64 a1_1).wf = true → ∃ k, laws_FnExactTurnRef.f k a0_0 a0_1 a0_2 a0_3 a1_0 a1_1 a1_2 a1_3 = some true := by
  intro k a m d r c x y _ _ _ _ _
  refine ⟨2, ?_⟩
  unfold laws_FnExactTurnRef.f laws_toTurn.f laws_toRef.f
  simp only [Option.bind_some, specTurnRef_is 1, implTurnRef_is 0]
  obtain ⟨y1, y2, y3, y4, y5⟩ := turnRefV k a m d r c x y
  simp [eqRef_is]

end Go.Proofs.Ytaclplimbnihkaa.Pure
