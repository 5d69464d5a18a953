/- The plain law of FnExactMeet: what the program computes is what the reference computes, for every input (no further condition). -/
import Derived.Test.YtaclplimbnihkaaMFnExactMeeta4
namespace Go.Proofs.Ytaclplimbnihkaa.Pure
open Go.RowKit Go.Proofs.Ytaclplimbnihkaa.PFnExactMeet Go.Proofs.YtaclplimbnihkaaW.PrintWords Go.Proofs.YtaclplimbnihkaaW.PrintLast

set_option linter.unusedVariables false
set_option linter.unusedSimpArgs false
/-! plain facts on whole numbers -/
theorem wrap_id {x : Int} (h1 : -9223372036854775808 ≤ x) (h2 : x ≤ 9223372036854775807) : wrap64 x = x := by
  unfold wrap64; omega
theorem td_pos {a b : Int} (h : 0 ≤ a) : a.tdiv b = a / b := Int.tdiv_eq_ediv_of_nonneg h
theorem td_neg {a b : Int} (h : a ≤ 0) : a.tdiv b = -((-a) / b) := by
  rw [← Int.tdiv_eq_ediv_of_nonneg (by omega : 0 ≤ -a), Int.neg_tdiv]; omega
theorem tm_pos {a b : Int} (h : 0 ≤ a) : a.tmod b = a % b := Int.tmod_eq_emod_of_nonneg h
theorem tm_neg {a b : Int} (h : a ≤ 0) : a.tmod b = -((-a) % b) := by
  rw [← Int.tmod_eq_emod_of_nonneg (by omega : 0 ≤ -a), Int.neg_tmod]; omega
theorem tm_zero (a b : Int) : a.tmod b = 0 ↔ a % b = 0 := by
  rw [← Int.dvd_iff_tmod_eq_zero, ← Int.dvd_iff_emod_eq_zero]
theorem ediv_is {a b q r : Int} (hb : 0 < b) (h : a = b * q + r) (h0 : 0 ≤ r) (h1 : r < b) : a / b = q := by
  rw [h, Int.add_comm, Int.add_mul_ediv_left _ _ (by omega), Int.ediv_eq_zero_of_lt h0 h1]; omega
theorem ediv_neg_of {a b : Int} (hb : 0 < b) (h : a.tmod b = 0) : a.tdiv b = a / b := by
  have e := Int.mul_tdiv_add_tmod a b
  rw [h] at e
  exact (ediv_is hb (q := a.tdiv b) (r := 0) (by omega) (by omega) hb).symm
theorem ediv_floor {a b : Int} (hb : 0 < b) (ha : a < 0) (h : a.tmod b ≠ 0) : a.tdiv b - 1 = a / b := by
  have e := Int.mul_tdiv_add_tmod a b
  have hm := tm_neg (a := a) (b := b) (by omega)
  have h0 := Int.emod_nonneg (-a) (by omega : b ≠ 0)
  have h1 := Int.emod_lt_of_pos (-a) hb
  refine (ediv_is hb (q := a.tdiv b - 1) (r := a.tmod b + b) ?_ (by omega) (by omega)).symm
  rw [Int.mul_sub]; omega
/-- The floor, as both programs reckon it. -/
theorem floor_is {a b : Int} (hb : 0 < b) (h1 : -4611686018427387904 ≤ a) (h2 : a ≤ 4611686018427387904) :
    (if b = 0 then (none) else (if (Int.tmod a b) = 0 then (some (wrap64 (Int.tdiv a b))) else (if ((decide (a < 0)) != (decide (b < 0))) = true then (some (wrap64 ((wrap64 (Int.tdiv a b)) - 1))) else (some (wrap64 (Int.tdiv a b)))))) = some (a / b) := by
  have hle : a / b ≤ 4611686018427387904 := by
    by_cases h : 0 ≤ a
    · exact Int.le_trans (Int.ediv_le_self b h) h2
    · have := Int.ediv_neg_of_neg_of_pos (by omega : a < 0) hb; omega
  have hge : -4611686018427387904 ≤ a / b := by
    by_cases h : 0 ≤ a
    · have := Int.ediv_nonneg h (by omega : 0 ≤ b); omega
    · exact Int.le_ediv_of_mul_le hb (by have : -4611686018427387904 * b ≤ -4611686018427387904 * 1 := by omega
                                         omega)
  rw [if_neg (by omega : ¬ b = 0)]
  by_cases hm : Int.tmod a b = 0
  · rw [if_pos hm, ediv_neg_of hb hm, wrap_id (by omega) (by omega)]
  · rw [if_neg hm]
    by_cases ha : a < 0
    · have e := ediv_floor hb ha hm
      rw [if_pos (by simp [ha]; omega), wrap_id (x := Int.tdiv a b) (by omega) (by omega), e, wrap_id (by omega) (by omega)]
    · rw [if_neg (by simp [ha]; omega), td_pos (by omega), wrap_id (by omega) (by omega)]

def goodRefB (r c : Int) : Bool := decide (1 ≤ r ∧ r ≤ 1000 ∧ 1 ≤ c ∧ c ≤ 200)
theorem specGoodRef_is (r c : Int) (a b : Bool) : spec_GoodRef.f r c a b = some (goodRefB r c) := by
  unfold spec_GoodRef.f goodRefB
  by_cases h1 : 1 ≤ r <;> by_cases h2 : r ≤ 1000 <;> by_cases h3 : 1 ≤ c <;> by_cases h4 : c ≤ 200 <;> simp [h1, h2, h3, h4]
theorem implGoodRef_is (r c : Int) (a b : Bool) : impl_GoodRef.f r c a b = some (goodRefB r c) := by
  unfold impl_GoodRef.f impl_Ref_place.f impl_place_good.f goodRefB
  simp only [Option.bind_some]
  by_cases h1 : 1 ≤ r <;> by_cases h2 : r ≤ 1000 <;> by_cases h3 : 1 ≤ c <;> by_cases h4 : c ≤ 200 <;> simp [h1, h2, h3, h4]

def goodAreaB (r c r2 c2 : Int) : Bool := goodRefB r c && goodRefB r2 c2
theorem specGoodArea_is (r c : Int) (a b : Bool) (r2 c2 : Int) (a2 b2 : Bool) : spec_GoodArea.f r c a b r2 c2 a2 b2 = some (goodAreaB r c r2 c2) := by
  unfold spec_GoodArea.f goodAreaB
  simp only [specGoodRef_is, Option.bind_some]
  cases goodRefB r c <;> simp
theorem implGoodArea_is (r c : Int) (a b : Bool) (r2 c2 : Int) (a2 b2 : Bool) : impl_GoodArea.f r c a b r2 c2 a2 b2 = some (goodAreaB r c r2 c2) := by
  unfold impl_GoodArea.f goodAreaB
  simp only [implGoodRef_is, Option.bind_some]
  cases goodRefB r c <;> simp

theorem eqRef_is (r c : Int) (a b : Bool) : laws_eqRef.f r c a b r c a b = some true := by
  unfold laws_eqRef.f; simp

theorem eqArea_is (r c : Int) (a b : Bool) (r2 c2 : Int) (a2 b2 : Bool) : laws_eqArea.f r c a b r2 c2 a2 b2 r c a b r2 c2 a2 b2 = some true := by
  unfold laws_eqArea.f; simp [eqRef_is]
theorem toArea_is (r c : Int) (a b : Bool) (r2 c2 : Int) (a2 b2 : Bool) : laws_toArea.f r c a b r2 c2 a2 b2 = some (r, c, a, b, r2, c2, a2, b2) := by
  unfold laws_toArea.f laws_toRef.f; rfl

theorem specMin_is (a b : Int) : spec_l3Min.f a b = some (min a b) := by
  unfold spec_l3Min.f
  by_cases h : a < b
  · rw [if_pos h]; congr 1; omega
  · rw [if_neg h]; congr 1; omega
theorem specMax_is (a b : Int) : spec_l3Max.f a b = some (max a b) := by
  unfold spec_l3Max.f
  by_cases h : a > b
  · rw [if_pos h]; congr 1; omega
  · rw [if_neg h]; congr 1; omega
theorem mn_is (a b : Int) : mn a b = min a b := by unfold mn; omega
theorem mx_is (a b : Int) : mx a b = max a b := by unfold mx; omega
/-- Normal's corners, whatever the fixes. -/
theorem specNormal_is (r c : Int) (a b : Bool) (r2 c2 : Int) (a2 b2 : Bool) : ∃ y1 y2 y3 y4, spec_l3Normal.f r c a b r2 c2 a2 b2 = some (min r r2, min c c2, y1, y2, max r r2, max c c2, y3, y4) := by
  unfold spec_l3Normal.f
  by_cases h1 : r > r2
  · by_cases h2 : c > c2
    · rw [if_pos h1, if_pos h2, show min r r2 = r2 from by omega, show min c c2 = c2 from by omega, show max r r2 = r from by omega, show max c c2 = c from by omega]; exact ⟨_, _, _, _, rfl⟩
    · rw [if_pos h1, if_neg h2, show min r r2 = r2 from by omega, show min c c2 = c from by omega, show max r r2 = r from by omega, show max c c2 = c2 from by omega]; exact ⟨_, _, _, _, rfl⟩
  · by_cases h2 : c > c2
    · rw [if_neg h1, if_pos h2, show min r r2 = r from by omega, show min c c2 = c2 from by omega, show max r r2 = r2 from by omega, show max c c2 = c from by omega]; exact ⟨_, _, _, _, rfl⟩
    · rw [if_neg h1, if_neg h2, show min r r2 = r from by omega, show min c c2 = c from by omega, show max r r2 = r2 from by omega, show max c c2 = c2 from by omega]; exact ⟨_, _, _, _, rfl⟩

/-- What Meet tells of two areas' corners. -/
def meetV (r c r2 c2 s d s2 d2 : Int) : Int × Int × Bool × Bool × Int × Int × Bool × Bool × Bool :=
  if goodAreaB r c r2 c2 && goodAreaB s d s2 d2 && decide (max (min r r2) (min s s2) ≤ min (max r r2) (max s s2) ∧ max (min c c2) (min d d2) ≤ min (max c c2) (max d d2)) then
    (max (min r r2) (min s s2), max (min c c2) (min d d2), false, false, min (max r r2) (max s s2), min (max c c2) (max d d2), false, false, true)
  else (0, 0, false, false, 0, 0, false, false, false)
theorem specMeet_is (k : Nat) (r c : Int) (a b : Bool) (r2 c2 : Int) (a2 b2 : Bool) (s d : Int) (e f : Bool) (s2 d2 : Int) (e2 f2 : Bool) :
    spec_Meet.f (k + 1) r c a b r2 c2 a2 b2 s d e f s2 d2 e2 f2 = some (meetV r c r2 c2 s d s2 d2) := by
  unfold spec_Meet.f meetV
  simp only [specGoodArea_is, Option.bind_some]
  obtain ⟨y1, y2, y3, y4, e1⟩ := specNormal_is r c a b r2 c2 a2 b2
  obtain ⟨z1, z2, z3, z4, e2'⟩ := specNormal_is s d e f s2 d2 e2 f2
  cases h1 : goodAreaB r c r2 c2
  · simp [spec_Meet.j0]
  · cases h2 : goodAreaB s d s2 d2
    · simp [spec_Meet.j0]
    · simp only [spec_Meet.j0, e1, e2', specMin_is, specMax_is, spec_l3Area.f, Option.bind_some, if_true, Bool.not_true, Bool.false_eq_true, if_false, Bool.and_self, Bool.true_and]
      by_cases h3 : max (min r r2) (min s s2) > min (max r r2) (max s s2)
      · rw [if_pos h3, decide_eq_false (by omega)]; simp
      · rw [if_neg h3]
        by_cases h4 : max (min c c2) (min d d2) > min (max c c2) (max d d2)
        · rw [if_pos h4, decide_eq_false (by omega)]; simp
        · rw [if_neg h4, decide_eq_true (by omega)]; simp
theorem implMeet_is (k : Nat) (r c : Int) (a b : Bool) (r2 c2 : Int) (a2 b2 : Bool) (s d : Int) (e f : Bool) (s2 d2 : Int) (e2 f2 : Bool) :
    impl_Meet.f (k + 1) r c a b r2 c2 a2 b2 s d e f s2 d2 e2 f2 = some (meetV r c r2 c2 s d s2 d2) := by
  unfold impl_Meet.f meetV
  simp only [implGoodArea_is, Option.bind_some]
  cases h1 : goodAreaB r c r2 c2
  · simp [impl_Meet.j0]
  · cases h2 : goodAreaB s d s2 d2
    · simp [impl_Meet.j0]
    · simp only [impl_Meet.j0, impl_Area_block.f, impl_blockOf.f, impl_block_area.f, mn_is, mx_is, Option.bind_some, if_true, Bool.not_true, Bool.false_eq_true, if_false, Bool.and_self, Bool.true_and]
      by_cases h3 : max (min r r2) (min s s2) ≤ min (max r r2) (max s s2)
      · rw [if_pos h3]
        by_cases h4 : max (min c c2) (min d d2) ≤ min (max c c2) (max d d2)
        · simp only [Option.bind_some]; rw [decide_eq_true h4, decide_eq_true (And.intro h3 h4)]; simp
        · simp only [Option.bind_some]; rw [decide_eq_false h4, decide_eq_false (fun h => h4 h.2)]; simp
      · rw [if_neg h3, decide_eq_false (fun h => h3 h.1)]; simp
theorem FnExactMeet : ∀ (a0_0 : Int) (a0_1 : Int) (a0_2 : Bool) (a0_3 : Bool) (a0_4 : Int) (a0_5 : Int) (a0_6 : Bool) (a0_7 : Bool) (a1_0 : Int) (a1_1 : Int) (a1_2 : Bool) (a1_3 : Bool) (a1_4 : Int) (a1_5 : Int) (a1_6 : Bool) (a1_7 : Bool), (Lit.int .i64 a0_0).wf = true → (Lit.int .i64 a0_1).wf = true → (Lit.int .i64 a0_4).wf = true → (Lit.int .i64 a0_5).wf = true → (Lit.int .i64 a1_0).wf = true → (Lit.int .i64 a1_1).wf = true → (Lit.int .i64 a1_4).wf = true → (Lit.int .i64 a1_5).wf = true → ∃ k, laws_FnExactMeet.f k a0_0 a0_1 a0_2 a0_3 a0_4 a0_5 a0_6 a0_7 a1_0 a1_1 a1_2 a1_3 a1_4 a1_5 a1_6 a1_7 = some true := by
  intro r c a b r2 c2 a2 b2 s d e f s2 d2 e2 f2 _ _ _ _ _ _ _ _
  refine ⟨1, ?_⟩
  unfold laws_FnExactMeet.f
  simp only [toArea_is, Option.bind_some, specMeet_is 0, implMeet_is 0]
  obtain ⟨y1, y2, y3, y4, y5, y6, y7, y8, y9⟩ := meetV r c r2 c2 s d s2 d2
  simp [eqArea_is]

end Go.Proofs.Ytaclplimbnihkaa.Pure
