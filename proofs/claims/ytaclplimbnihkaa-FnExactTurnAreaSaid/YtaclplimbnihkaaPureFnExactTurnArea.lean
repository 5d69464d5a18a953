/- The plain law of FnExactTurnArea: what the program computes is what the reference computes, for every input (no further condition). -/
import Derived.Test.YtaclplimbnihkaaMFnExactTurnAreaa8
namespace Go.Proofs.Ytaclplimbnihkaa.Pure
open Go.RowKit Go.Proofs.Ytaclplimbnihkaa.PFnExactTurnArea Go.Proofs.YtaclplimbnihkaaW.PrintWords Go.Proofs.YtaclplimbnihkaaW.PrintLast

set_option linter.unusedVariables false
set_option linter.unusedSimpArgs false
/-! plain facts on whole numbers -/
theorem wrap_id {x : Int} (h1 : -9223372036854775808 ≤ x) (h2 : x ≤ 9223372036854775807) : wrap64 x = x := by
  unfold wrap64; omega
theorem td_pos {a b : Int} (h : 0 ≤ a) : a.tdiv b = a / b := Int.tdiv_eq_ediv_of_nonneg h
theorem td_neg {a b : Int} (h : a ≤ 0) : a.tdiv b = -((-a) / b) := by
  rw [← Int.tdiv_eq_ediv_of_nonneg (by omega : 0 ≤ -a), Int.neg_tdiv]; omega
theorem tm_pos {a b : Int} (h : 0 ≤ a) : a.tmod b = a % b := Int.tmod_eq_emod_of_nonneg h
theorem tm_neg {a b : Int} (h : a ≤ 0) : a.tmod b = -((-a) % b) := by
  rw [← Int.tmod_eq_emod_of_nonneg (by omega : 0 ≤ -a), Int.neg_tmod]; omega
theorem tm_zero (a b : Int) : a.tmod b = 0 ↔ a % b = 0 := by
  rw [← Int.dvd_iff_tmod_eq_zero, ← Int.dvd_iff_emod_eq_zero]
theorem ediv_is {a b q r : Int} (hb : 0 < b) (h : a = b * q + r) (h0 : 0 ≤ r) (h1 : r < b) : a / b = q := by
  rw [h, Int.add_comm, Int.add_mul_ediv_left _ _ (by omega), Int.ediv_eq_zero_of_lt h0 h1]; omega
theorem ediv_neg_of {a b : Int} (hb : 0 < b) (h : a.tmod b = 0) : a.tdiv b = a / b := by
  have e := Int.mul_tdiv_add_tmod a b
  rw [h] at e
  exact (ediv_is hb (q := a.tdiv b) (r := 0) (by omega) (by omega) hb).symm
theorem ediv_floor {a b : Int} (hb : 0 < b) (ha : a < 0) (h : a.tmod b ≠ 0) : a.tdiv b - 1 = a / b := by
  have e := Int.mul_tdiv_add_tmod a b
  have hm := tm_neg (a := a) (b := b) (by omega)
  have h0 := Int.emod_nonneg (-a) (by omega : b ≠ 0)
  have h1 := Int.emod_lt_of_pos (-a) hb
  refine (ediv_is hb (q := a.tdiv b - 1) (r := a.tmod b + b) ?_ (by omega) (by omega)).symm
  rw [Int.mul_sub]; omega
/-- The floor, as both programs reckon it. -/
theorem floor_is {a b : Int} (hb : 0 < b) (h1 : -4611686018427387904 ≤ a) (h2 : a ≤ 4611686018427387904) :
    (if b = 0 then (none) else (if (Int.tmod a b) = 0 then (some (wrap64 (Int.tdiv a b))) else (if ((decide (a < 0)) != (decide (b < 0))) = true then (some (wrap64 ((wrap64 (Int.tdiv a b)) - 1))) else (some (wrap64 (Int.tdiv a b)))))) = some (a / b) := by
  have hle : a / b ≤ 4611686018427387904 := by
    by_cases h : 0 ≤ a
    · exact Int.le_trans (Int.ediv_le_self b h) h2
    · have := Int.ediv_neg_of_neg_of_pos (by omega : a < 0) hb; omega
  have hge : -4611686018427387904 ≤ a / b := by
    by_cases h : 0 ≤ a
    · have := Int.ediv_nonneg h (by omega : 0 ≤ b); omega
    · exact Int.le_ediv_of_mul_le hb (by have : -4611686018427387904 * b ≤ -4611686018427387904 * 1 := by omega
                                         omega)
  rw [if_neg (by omega : ¬ b = 0)]
  by_cases hm : Int.tmod a b = 0
  · rw [if_pos hm, ediv_neg_of hb hm, wrap_id (by omega) (by omega)]
  · rw [if_neg hm]
    by_cases ha : a < 0
    · have e := ediv_floor hb ha hm
      rw [if_pos (by simp [ha]; omega), wrap_id (x := Int.tdiv a b) (by omega) (by omega), e, wrap_id (by omega) (by omega)]
    · rw [if_neg (by simp [ha]; omega), td_pos (by omega), wrap_id (by omega) (by omega)]

def goodRefB (r c : Int) : Bool := decide (1 ≤ r ∧ r ≤ 1000 ∧ 1 ≤ c ∧ c ≤ 200)
theorem specGoodRef_is (r c : Int) (a b : Bool) : spec_GoodRef.f r c a b = some (goodRefB r c) := by
  unfold spec_GoodRef.f goodRefB
  by_cases h1 : 1 ≤ r <;> by_cases h2 : r ≤ 1000 <;> by_cases h3 : 1 ≤ c <;> by_cases h4 : c ≤ 200 <;> simp [h1, h2, h3, h4]
theorem implGoodRef_is (r c : Int) (a b : Bool) : impl_GoodRef.f r c a b = some (goodRefB r c) := by
  unfold impl_GoodRef.f impl_Ref_place.f impl_place_good.f goodRefB
  simp only [Option.bind_some]
  by_cases h1 : 1 ≤ r <;> by_cases h2 : r ≤ 1000 <;> by_cases h3 : 1 ≤ c <;> by_cases h4 : c ≤ 200 <;> simp [h1, h2, h3, h4]

theorem specMost_is (k : Int) : spec_l5Limit.f k = some (mostI k) := by
  unfold spec_l5Limit.f mostI; split <;> rfl
theorem implMost_is (k a m : Int) (d : Bool) : impl_Turn_most.f k a m d = some (mostI k) := by
  unfold impl_Turn_most.f mostI; split <;> rfl
theorem specGoodTurn_is (k a m : Int) (d : Bool) : spec_GoodTurn.f k a m d = some (goodTurnB k a m d) := rfl
theorem implGoodTurn_is (k a m : Int) (d : Bool) : impl_GoodTurn.f k a m d = some (goodTurnB k a m d) := by
  unfold impl_GoodTurn.f goodTurnB
  have hm := most_le k
  simp only [implMost_is, Option.bind_some]
  by_cases k12 : k = 1 ∨ k = 2
  · have e : ∀ x : Option Bool, (if k = 1 then x else if k = 2 then x else some false) = x := by
      intro x; by_cases k1 : k = 1
      · rw [if_pos k1]
      · rw [if_neg k1, if_pos (by omega)]
    rw [e]
    by_cases a1 : a < 1
    · rw [if_pos a1]; congr 1; symm; rw [decide_eq_false_iff_not]; omega
    rw [if_neg a1]
    by_cases a2 : a > mostI k
    · rw [if_pos a2]; congr 1; symm; rw [decide_eq_false_iff_not]; omega
    rw [if_neg a2]
    by_cases m1 : m < 1
    · rw [if_pos m1]; congr 1; symm; rw [decide_eq_false_iff_not]; omega
    rw [if_neg m1]
    by_cases m2 : m > 100
    · rw [if_pos m2]; congr 1; symm; rw [decide_eq_false_iff_not]; omega
    rw [if_neg m2, wrap_id (x := a + m) (by omega) (by omega), wrap_id (x := a + m - 1) (by omega) (by omega)]
    cases d with
    | false => rw [if_neg (by decide)]; congr 1; symm; rw [decide_eq_true_eq]; exact ⟨k12, by omega, by omega, by omega, by omega, fun h => by cases h⟩
    | true =>
      rw [if_pos rfl]; congr 1
      rw [decide_eq_decide]
      exact ⟨fun h => ⟨k12, by omega, by omega, by omega, by omega, fun _ => h⟩, fun h => h.2.2.2.2.2 rfl⟩
  · rw [if_neg (by omega), if_neg (by omega)]; congr 1; symm; rw [decide_eq_false_iff_not]; omega

theorem eqRef_is (r c : Int) (a b : Bool) : laws_eqRef.f r c a b r c a b = some true := by
  unfold laws_eqRef.f; simp

/-- Where TurnRef brings a line, and whether it is there still. -/
def lineV (k a m : Int) (d : Bool) (n : Int) : Int × Bool :=
  if n < a then (n, true) else if d = true then (if n < a + m then (0, false) else (n - m, true)) else (if n + m > mostI k then (0, false) else (n + m, true))
def turnRefV (k a m : Int) (d : Bool) (r c : Int) (x y : Bool) : Int × Int × Bool × Bool × Bool :=
  if goodTurnB k a m d && goodRefB r c then
    (if k = 1 then (if (lineV k a m d r).2 = true then ((lineV k a m d r).1, c, x, y, true) else (0, 0, false, false, false))
     else (if (lineV k a m d c).2 = true then (r, (lineV k a m d c).1, x, y, true) else (0, 0, false, false, false)))
  else (0, 0, false, false, false)
theorem goodTurn_facts {k a m : Int} {d : Bool} (h : goodTurnB k a m d = true) : (k = 1 ∨ k = 2) ∧ 1 ≤ a ∧ a ≤ mostI k ∧ 1 ≤ m ∧ m ≤ 100 ∧ (d = true → a + m - 1 ≤ mostI k) := by
  unfold goodTurnB at h; exact of_decide_eq_true h
theorem goodRef_facts {r c : Int} (h : goodRefB r c = true) : 1 ≤ r ∧ r ≤ 1000 ∧ 1 ≤ c ∧ c ≤ 200 := by
  unfold goodRefB at h; exact of_decide_eq_true h
theorem specTurn_is (k a m : Int) (d : Bool) (n : Int) (ha : 1 ≤ a ∧ a ≤ 1000) (hm : 1 ≤ m ∧ m ≤ 100) (hn : 1 ≤ n ∧ n ≤ 1000) : spec_l5Turn.f k a m d n = some (lineV k a m d n).1 := by
  unfold spec_l5Turn.f lineV
  simp only [specMost_is, Option.bind_some]
  rw [wrap_id (x := a + m) (by omega) (by omega), wrap_id (x := n - m) (by omega) (by omega), wrap_id (x := n + m) (by omega) (by omega)]
  repeat (first | rfl | split)
theorem implLine_is (k a m : Int) (d : Bool) (n : Int) (ha : 1 ≤ a ∧ a ≤ 1000) (hm : 1 ≤ m ∧ m ≤ 100) (hn : 1 ≤ n ∧ n ≤ 1000) :
    ∃ z, impl_Turn_line.f k a m d n = some (z, (lineV k a m d n).2) ∧ ((lineV k a m d n).2 = true → z = (lineV k a m d n).1) := by
  unfold impl_Turn_line.f lineV
  simp only [implMost_is, Option.bind_some]
  rw [wrap_id (x := a + m) (by omega) (by omega), wrap_id (x := n - m) (by omega) (by omega), wrap_id (x := n + m) (by omega) (by omega)]
  by_cases h1 : n < a
  · simp [h1]
  · cases d with
    | true =>
      by_cases h2 : n < a + m
      · have h3 : ¬ n ≥ a + m := by omega
        simp [h1, h2, h3]
      · have h3 : n ≥ a + m := by omega
        simp [h1, h2, h3]
    | false =>
      by_cases h2 : n + m > mostI k
      · have h3 : ¬ n + m ≤ mostI k := by omega
        simp [h1, h2, h3]
      · have h3 : n + m ≤ mostI k := by omega
        simp [h1, h2, h3]

def goodAreaB (r c r2 c2 : Int) : Bool := goodRefB r c && goodRefB r2 c2
theorem specGoodArea_is (r c : Int) (a b : Bool) (r2 c2 : Int) (a2 b2 : Bool) : spec_GoodArea.f r c a b r2 c2 a2 b2 = some (goodAreaB r c r2 c2) := by
  unfold spec_GoodArea.f goodAreaB
  simp only [specGoodRef_is, Option.bind_some]
  cases goodRefB r c <;> simp
theorem implGoodArea_is (r c : Int) (a b : Bool) (r2 c2 : Int) (a2 b2 : Bool) : impl_GoodArea.f r c a b r2 c2 a2 b2 = some (goodAreaB r c r2 c2) := by
  unfold impl_GoodArea.f goodAreaB
  simp only [implGoodRef_is, Option.bind_some]
  cases goodRefB r c <;> simp

theorem eqArea_is (r c : Int) (a b : Bool) (r2 c2 : Int) (a2 b2 : Bool) : laws_eqArea.f r c a b r2 c2 a2 b2 r c a b r2 c2 a2 b2 = some true := by
  unfold laws_eqArea.f; simp [eqRef_is]
theorem toArea_is (r c : Int) (a b : Bool) (r2 c2 : Int) (a2 b2 : Bool) : laws_toArea.f r c a b r2 c2 a2 b2 = some (r, c, a, b, r2, c2, a2, b2) := by
  unfold laws_toArea.f laws_toRef.f; rfl

theorem specMin_is (a b : Int) : spec_l3Min.f a b = some (min a b) := by
  unfold spec_l3Min.f
  by_cases h : a < b
  · rw [if_pos h]; congr 1; omega
  · rw [if_neg h]; congr 1; omega
theorem specMax_is (a b : Int) : spec_l3Max.f a b = some (max a b) := by
  unfold spec_l3Max.f
  by_cases h : a > b
  · rw [if_pos h]; congr 1; omega
  · rw [if_neg h]; congr 1; omega
theorem mn_is (a b : Int) : mn a b = min a b := by unfold mn; omega
theorem mx_is (a b : Int) : mx a b = max a b := by unfold mx; omega

/-- The first and the last line of a stretch from lo to n - 1 that are left by a turn, 0 where there is none. -/
def fV (k a m : Int) (d : Bool) (lo n : Int) : Int :=
  if lo ≥ n then 0 else if lo < a then lo else if d = true then (if lo < a + m then (if n - 1 ≥ a + m then a else 0) else lo - m) else (if lo + m ≤ mostI k then lo + m else 0)
def gV (k a m : Int) (d : Bool) (lo n : Int) : Int :=
  if lo ≥ n then 0 else if n - 1 < a then n - 1 else if d = true then (if n - 1 < a + m then (if lo < a then a - 1 else 0) else n - 1 - m)
  else (if n - 1 + m ≤ mostI k then n - 1 + m else if mostI k - m ≥ a ∧ mostI k - m ≥ lo then mostI k else if lo < a then a - 1 else 0)
theorem f_step (k a m : Int) (d : Bool) (lo n : Int) (h1 : 1 ≤ lo) (h2 : lo ≤ n) (ha : 1 ≤ a) (hm : 1 ≤ m) (hM : n ≤ mostI k) :
    fV k a m d lo (n + 1) = (if (lineV k a m d n).1 > 0 then (if fV k a m d lo n = 0 then (lineV k a m d n).1 else fV k a m d lo n) else fV k a m d lo n) := by
  have ht : ∀ t f0 f1 : Int, (lineV k a m d n).1 = t → fV k a m d lo n = f0 → fV k a m d lo (n + 1) = f1 → ((t > 0 ∧ f0 = 0 ∧ f1 = t) ∨ (t > 0 ∧ f0 ≠ 0 ∧ f1 = f0) ∨ (¬ t > 0 ∧ f1 = f0)) →
      fV k a m d lo (n + 1) = (if (lineV k a m d n).1 > 0 then (if fV k a m d lo n = 0 then (lineV k a m d n).1 else fV k a m d lo n) else fV k a m d lo n) := by
    rintro t f0 f1 rfl rfl rfl (⟨q1, q2, q3⟩ | ⟨q1, q2, q3⟩ | ⟨q1, q3⟩)
    · rw [if_pos q1, if_pos q2, q3]
    · rw [if_pos q1, if_neg q2, q3]
    · rw [if_neg q1, q3]
  refine ht _ _ _ rfl rfl rfl ?_
  unfold fV lineV
  generalize mostI k = M at *
  rw [show n + 1 - 1 = n from by omega, if_neg (by omega : ¬ lo ≥ n + 1)]
  cases d
  · simp only [Bool.false_eq_true, if_false]
    by_cases c1 : n < a <;> by_cases c2 : n + m > M <;> by_cases c3 : lo ≥ n <;> by_cases c4 : lo < a <;> by_cases c5 : lo + m ≤ M <;> simp only [c1, c2, c3, c4, c5, if_true, if_false] <;> (try dsimp only) <;> (try simp only [if_true, if_false, ite_true, ite_false, true_and, and_true, ne_eq, not_true_eq_false, not_false_eq_true, false_and, and_false, false_or, or_false, true_or, or_true]) <;> omega
  · simp only [if_true]
    by_cases c1 : n < a <;> by_cases c2 : n < a + m <;> by_cases c3 : lo ≥ n <;> by_cases c4 : lo < a <;> by_cases c5 : lo < a + m <;> by_cases c6 : n - 1 ≥ a + m <;> by_cases c7 : n ≥ a + m <;> simp only [c1, c2, c3, c4, c5, c6, c7, if_true, if_false] <;> (try dsimp only) <;> (try simp only [if_true, if_false, ite_true, ite_false, true_and, and_true, ne_eq, not_true_eq_false, not_false_eq_true, false_and, and_false, false_or, or_false, true_or, or_true]) <;> omega
theorem g_step (k a m : Int) (d : Bool) (lo n : Int) (h1 : 1 ≤ lo) (h2 : lo ≤ n) (ha : 1 ≤ a) (hm : 1 ≤ m) (hM : n ≤ mostI k) :
    gV k a m d lo (n + 1) = (if (lineV k a m d n).1 > 0 then (lineV k a m d n).1 else gV k a m d lo n) := by
  have ht : ∀ t f0 f1 : Int, (lineV k a m d n).1 = t → gV k a m d lo n = f0 → gV k a m d lo (n + 1) = f1 → ((t > 0 ∧ f1 = t) ∨ (¬ t > 0 ∧ f1 = f0)) →
      gV k a m d lo (n + 1) = (if (lineV k a m d n).1 > 0 then (lineV k a m d n).1 else gV k a m d lo n) := by
    rintro t f0 f1 rfl rfl rfl (⟨q1, q3⟩ | ⟨q1, q3⟩)
    · rw [if_pos q1, q3]
    · rw [if_neg q1, q3]
  refine ht _ _ _ rfl rfl rfl ?_
  unfold gV lineV
  generalize mostI k = M at *
  rw [show n + 1 - 1 = n from by omega, if_neg (by omega : ¬ lo ≥ n + 1)]
  cases d
  · simp only [Bool.false_eq_true, if_false]
    by_cases c1 : n < a <;> by_cases c2 : n + m > M <;> by_cases c3 : lo ≥ n <;> by_cases c4 : lo < a <;> by_cases c5 : n - 1 < a <;> by_cases c6 : n - 1 + m ≤ M <;> by_cases c7 : n + m ≤ M <;> by_cases c8 : M - m ≥ a ∧ M - m ≥ lo <;> simp only [c1, c2, c3, c4, c5, c6, c7, c8, if_true, if_false] <;> (try dsimp only) <;> (try simp only [if_true, if_false, ite_true, ite_false, true_and, and_true, ne_eq, not_true_eq_false, not_false_eq_true, false_and, and_false, false_or, or_false, true_or, or_true]) <;> omega
  · simp only [if_true]
    by_cases c1 : n < a <;> by_cases c2 : n < a + m <;> by_cases c3 : lo ≥ n <;> by_cases c4 : lo < a <;> by_cases c5 : n - 1 < a <;> by_cases c6 : n - 1 < a + m <;> simp only [c1, c2, c3, c4, c5, c6, if_true, if_false] <;> (try dsimp only) <;> (try simp only [if_true, if_false, ite_true, ite_false, true_and, and_true, ne_eq, not_true_eq_false, not_false_eq_true, false_and, and_false, false_or, or_false, true_or, or_true]) <;> omega
theorem ends_loop (k a m : Int) (d : Bool) (lo hi : Int) (h1 : 1 ≤ lo) (ha : 1 ≤ a ∧ a ≤ 1000) (hm : 1 ≤ m ∧ m ≤ 100) (hM : hi ≤ mostI k) (hM2 : mostI k ≤ 1000) :
    ∀ (j q : Nat) (n : Int), lo ≤ n → hi + 1 - n = j → j < q → spec_l5Ends.l0 q hi (fV k a m d lo n) (gV k a m d lo n) n k a m d = some (fV k a m d lo (n + j), gV k a m d lo (n + j), decide (fV k a m d lo (n + j) > 0)) := by
  intro j
  induction j with
  | zero =>
    intro q n hn hj hq
    obtain ⟨q, rfl⟩ : ∃ p, q = p + 1 := ⟨q - 1, by omega⟩
    simp only [spec_l5Ends.l0]
    rw [if_neg (by omega)]
    simp
  | succ j ih =>
    intro q n hn hj hq
    obtain ⟨q, rfl⟩ : ∃ p, q = p + 1 := ⟨q - 1, by omega⟩
    simp only [spec_l5Ends.l0]
    rw [if_pos (by omega), specTurn_is k a m d n ha hm ⟨by omega, by omega⟩, wrap_id (x := n + 1) (by omega) (by omega)]
    simp only [Option.bind_some]
    have e1 := f_step k a m d lo n h1 hn ha.1 hm.1 (by omega)
    have e2 := g_step k a m d lo n h1 hn ha.1 hm.1 (by omega)
    have hi2 := ih q (n + 1) (by omega) (by omega) (by omega)
    rw [show n + ((j + 1 : Nat) : Int) = n + 1 + (j : Int) from by omega, ← hi2]
    by_cases hp : (lineV k a m d n).1 > 0
    · rw [if_pos hp]; rw [if_pos hp] at e1 e2
      by_cases h0 : fV k a m d lo n = 0
      · rw [if_pos h0]; rw [if_pos h0] at e1; rw [e1, e2]
      · rw [if_neg h0]; rw [if_neg h0] at e1; rw [e1, e2]
    · rw [if_neg hp]; rw [if_neg hp] at e1 e2; rw [e1, e2]
theorem specEnds_is (q : Nat) (k a m : Int) (d : Bool) (lo hi : Int) (h1 : 1 ≤ lo) (hlh : lo ≤ hi) (ha : 1 ≤ a ∧ a ≤ 1000) (hm : 1 ≤ m ∧ m ≤ 100) (hM : hi ≤ mostI k) (hM2 : mostI k ≤ 1000) (hq : 1001 < q) :
    spec_l5Ends.f q k a m d lo hi = some (fV k a m d lo (hi + 1), gV k a m d lo (hi + 1), decide (fV k a m d lo (hi + 1) > 0)) := by
  unfold spec_l5Ends.f
  have h := ends_loop k a m d lo hi h1 ha hm hM hM2 (hi + 1 - lo).toNat q lo (by omega) (by omega) (by omega)
  have e1 : fV k a m d lo lo = 0 := by unfold fV; rw [if_pos (by omega)]
  have e2 : gV k a m d lo lo = 0 := by unfold gV; rw [if_pos (by omega)]
  rw [e1, e2] at h
  rw [h, show lo + ((hi + 1 - lo).toNat : Int) = hi + 1 from by omega]
theorem line_is (k a m : Int) (d : Bool) (n : Int) (ha : 1 ≤ a ∧ a ≤ 1000) (hm : 1 ≤ m ∧ m ≤ 100) (hn : 1 ≤ n ∧ n ≤ 1000) :
    impl_Turn_line.f k a m d n = some (if n < a then (n, true) else if d = true then (n - m, decide (n ≥ a + m)) else (n + m, decide (n + m ≤ mostI k))) := by
  unfold impl_Turn_line.f
  simp only [implMost_is, Option.bind_some]
  rw [wrap_id (x := a + m) (by omega) (by omega), wrap_id (x := n - m) (by omega) (by omega), wrap_id (x := n + m) (by omega) (by omega)]
  split
  · rfl
  · split <;> rfl
theorem implEnds_is (k a m : Int) (d : Bool) (lo hi : Int) (h1 : 1 ≤ lo) (hlh : lo ≤ hi) (ha : 1 ≤ a ∧ a ≤ 1000) (hm : 1 ≤ m ∧ m ≤ 100) (hM : hi ≤ mostI k) (hM2 : mostI k ≤ 1000) :
    ∃ x y, impl_Turn_ends.f k a m d lo hi = some (x, y, decide (fV k a m d lo (hi + 1) > 0)) ∧ (fV k a m d lo (hi + 1) > 0 → x = fV k a m d lo (hi + 1) ∧ y = gV k a m d lo (hi + 1)) := by
  unfold impl_Turn_ends.f
  rw [line_is k a m d lo ha hm ⟨by omega, by omega⟩, line_is k a m d hi ha hm ⟨by omega, by omega⟩]
  simp only [Option.bind_some, implMost_is]
  rw [wrap_id (x := a - 1) (by omega) (by omega)]
  have hmo := most_le k
  rw [wrap_id (x := mostI k - m) (by omega) (by omega)]
  unfold fV gV
  generalize mostI k = M at *
  rw [show hi + 1 - 1 = hi from by omega]
  cases d
  · simp only [Bool.false_eq_true, if_false]
    rw [if_neg (by omega : ¬ lo ≥ hi + 1), if_neg (by omega : ¬ lo ≥ hi + 1)]
    by_cases c1 : lo < a <;> by_cases c2 : hi < a <;> by_cases c3 : lo + m ≤ M <;> by_cases c4 : hi + m ≤ M <;> by_cases c5 : M - m < a <;> by_cases c6 : M - m ≥ lo <;>
      simp [c1, c2, c3, c4, c5, c6] <;>
      (first | omega | (refine ⟨_, _, ⟨rfl, rfl, ?_⟩, fun _ => ⟨?_, ?_⟩⟩ <;> (first | rfl | omega | (split <;> omega) | (simp; omega))) | (refine ⟨_, _, ⟨rfl, rfl⟩, fun _ => ⟨?_, ?_⟩⟩ <;> (first | rfl | omega | (split <;> omega))) | (refine ⟨_, _, ⟨rfl, rfl, ?_⟩, ?_⟩ <;> (first | rfl | omega | (intros; omega))))
  · simp only [if_true]
    rw [if_neg (by omega : ¬ lo ≥ hi + 1), if_neg (by omega : ¬ lo ≥ hi + 1)]
    by_cases c1 : lo < a <;> by_cases c2 : hi < a <;> by_cases c3 : lo < a + m <;> by_cases c4 : hi < a + m <;> by_cases c5 : a + m ≤ hi <;> by_cases c6 : a + m ≤ lo <;>
      simp [c1, c2, c3, c4, c5, c6] <;>
      (first | omega | (refine ⟨_, _, ⟨rfl, rfl, ?_⟩, fun _ => ⟨?_, ?_⟩⟩ <;> (first | rfl | omega | (split <;> omega) | (simp; omega))) | (refine ⟨_, _, ⟨rfl, rfl⟩, fun _ => ⟨?_, ?_⟩⟩ <;> (first | rfl | omega | (split <;> omega))) | (refine ⟨_, _, ⟨rfl, rfl, ?_⟩, ?_⟩ <;> (first | rfl | omega | (intros; omega))))
def turnAreaV (k a m : Int) (d : Bool) (r c : Int) (x y : Bool) (r2 c2 : Int) (x2 y2 : Bool) : Int × Int × Bool × Bool × Int × Int × Bool × Bool × Bool :=
  if goodTurnB k a m d && goodAreaB r c r2 c2 then
    (if k = 1 then
      (if fV k a m d (min r r2) (max r r2 + 1) > 0 then
        (if r > r2 then (gV k a m d (min r r2) (max r r2 + 1), c, x, y, fV k a m d (min r r2) (max r r2 + 1), c2, x2, y2, true) else (fV k a m d (min r r2) (max r r2 + 1), c, x, y, gV k a m d (min r r2) (max r r2 + 1), c2, x2, y2, true))
       else (0, 0, false, false, 0, 0, false, false, false))
     else
      (if fV k a m d (min c c2) (max c c2 + 1) > 0 then
        (if c > c2 then (r, gV k a m d (min c c2) (max c c2 + 1), x, y, r2, fV k a m d (min c c2) (max c c2 + 1), x2, y2, true) else (r, fV k a m d (min c c2) (max c c2 + 1), x, y, r2, gV k a m d (min c c2) (max c c2 + 1), x2, y2, true))
       else (0, 0, false, false, 0, 0, false, false, false)))
  else (0, 0, false, false, 0, 0, false, false, false)
theorem goodArea_facts {r c r2 c2 : Int} (h : goodAreaB r c r2 c2 = true) : (1 ≤ r ∧ r ≤ 1000 ∧ 1 ≤ c ∧ c ≤ 200) ∧ (1 ≤ r2 ∧ r2 ≤ 1000 ∧ 1 ≤ c2 ∧ c2 ≤ 200) := by
  unfold goodAreaB at h; rw [Bool.and_eq_true] at h; exact ⟨goodRef_facts h.1, goodRef_facts h.2⟩
theorem specTurnArea_is (q : Nat) (hq : 1001 < q) (k a m : Int) (d : Bool) (r c : Int) (x y : Bool) (r2 c2 : Int) (x2 y2 : Bool) :
    spec_TurnArea.f (q + 1) k a m d r c x y r2 c2 x2 y2 = some (turnAreaV k a m d r c x y r2 c2 x2 y2) := by
  unfold spec_TurnArea.f turnAreaV
  simp only [specGoodTurn_is, specGoodArea_is, Option.bind_some]
  cases h1 : goodTurnB k a m d
  · simp [spec_TurnArea.j0]
  · cases h2 : goodAreaB r c r2 c2
    · simp [spec_TurnArea.j0]
    · have g1 := goodTurn_facts h1
      have g2 := goodArea_facts h2
      have hmo := most_le k
      simp only [if_true, spec_TurnArea.j0, Bool.not_true, Bool.false_eq_true, if_false, Bool.and_self, specMin_is, specMax_is, Option.bind_some]
      by_cases hk : k = 1
      · rw [if_pos hk, if_pos hk]
        have hmk : mostI k = 1000 := by unfold mostI; rw [if_pos hk]
        rw [specEnds_is q k a m d (min r r2) (max r r2) (by omega) (by omega) ⟨by omega, by omega⟩ ⟨by omega, by omega⟩ (by omega) (by omega) hq]
        simp only [Option.bind_some]
        by_cases h3 : fV k a m d (min r r2) (max r r2 + 1) > 0
        · rw [decide_eq_true h3, if_pos h3]; by_cases h4 : r > r2 <;> simp [h4]
        · rw [decide_eq_false h3, if_neg h3]; by_cases h4 : r > r2 <;> simp [h4]
      · rw [if_neg hk, if_neg hk]
        have hmk : mostI k = 200 := by unfold mostI; rw [if_neg hk]
        rw [specEnds_is q k a m d (min c c2) (max c c2) (by omega) (by omega) ⟨by omega, by omega⟩ ⟨by omega, by omega⟩ (by omega) (by omega) hq]
        simp only [Option.bind_some]
        by_cases h3 : fV k a m d (min c c2) (max c c2 + 1) > 0
        · rw [decide_eq_true h3, if_pos h3]; by_cases h4 : c > c2 <;> simp [h4]
        · rw [decide_eq_false h3, if_neg h3]; by_cases h4 : c > c2 <;> simp [h4]
theorem implTurnArea_is (q : Nat) (k a m : Int) (d : Bool) (r c : Int) (x y : Bool) (r2 c2 : Int) (x2 y2 : Bool) :
    impl_TurnArea.f (q + 1) k a m d r c x y r2 c2 x2 y2 = some (turnAreaV k a m d r c x y r2 c2 x2 y2) := by
  unfold impl_TurnArea.f turnAreaV
  simp only [implGoodTurn_is, implGoodArea_is, Option.bind_some]
  cases h1 : goodTurnB k a m d
  · simp [impl_TurnArea.j0]
  · cases h2 : goodAreaB r c r2 c2
    · simp [impl_TurnArea.j0]
    · have g1 := goodTurn_facts h1
      have g2 := goodArea_facts h2
      have hmo := most_le k
      simp only [if_true, impl_TurnArea.j0, Bool.not_true, Bool.false_eq_true, if_false, Bool.and_self, impl_Area_block.f, mn_is, mx_is, Option.bind_some]
      by_cases hk : k = 1
      · rw [if_pos hk, if_pos hk]
        have hmk : mostI k = 1000 := by unfold mostI; rw [if_pos hk]
        obtain ⟨u, v, e1, e2⟩ := implEnds_is k a m d (min r r2) (max r r2) (by omega) (by omega) ⟨by omega, by omega⟩ ⟨by omega, by omega⟩ (by omega) (by omega)
        rw [e1]
        simp only [Option.bind_some]
        by_cases h3 : fV k a m d (min r r2) (max r r2 + 1) > 0
        · obtain ⟨rfl, rfl⟩ := e2 h3
          rw [decide_eq_true h3, if_pos h3]; by_cases h4 : r > r2 <;> simp [h4]
        · rw [decide_eq_false h3, if_neg h3]; by_cases h4 : r > r2 <;> simp [h4]
      · rw [if_neg hk, if_neg hk]
        have hmk : mostI k = 200 := by unfold mostI; rw [if_neg hk]
        obtain ⟨u, v, e1, e2⟩ := implEnds_is k a m d (min c c2) (max c c2) (by omega) (by omega) ⟨by omega, by omega⟩ ⟨by omega, by omega⟩ (by omega) (by omega)
        rw [e1]
        simp only [Option.bind_some]
        by_cases h3 : fV k a m d (min c c2) (max c c2 + 1) > 0
        · obtain ⟨rfl, rfl⟩ := e2 h3
          rw [decide_eq_true h3, if_pos h3]; by_cases h4 : c > c2 <;> simp [h4]
        · rw [decide_eq_false h3, if_neg h3]; by_cases h4 : c > c2 <;> simp [h4]
theorem FnExactTurnArea : ∀ (a0_0 : Int) (a0_1 : Int) (a0_2 : Int) (a0_3 : Bool) (a1_0 : Int) (a1_1 : Int) (a1_2 : Bool) (a1_3 : Bool) (a1_4 : Int) (a1_5 : Int) (a1_6 : Bool) (a1_7 : Bool), (Lit.int .i64 a0_0).wf = true → (Lit.int .i64 a0_1).wf = true → (Lit.int .i64 a0_2).wf = true → (Lit.int .i64 a1_0).wf = true → (Lit.int .i64 a1_1).wf = true → (Lit.int .i64 a1_4).wf = true → (Lit.int .i64 a1_5).wf = true → ∃ k, laws_FnExactTurnArea.f k a0_0 a0_1 a0_2 a0_3 a1_0 a1_1 a1_2 a1_3 a1_4 a1_5 a1_6 a1_7 = some true := by
  intro k a m d r c x y r2 c2 x2 y2 _ _ _ _ _ _ _
  refine ⟨2001, ?_⟩
  unfold laws_FnExactTurnArea.f
  simp only [laws_toTurn.f, toArea_is, Option.bind_some, specTurnArea_is 2000 (by omega), implTurnArea_is 2000]
  obtain ⟨y1, y2, y3, y4, y5, y6, y7, y8, y9⟩ := turnAreaV k a m d r c x y r2 c2 x2 y2
  simp [eqArea_is]

end Go.Proofs.Ytaclplimbnihkaa.Pure
