/- The plain law of FnExactMoveRef: what the program computes is what the reference computes, for every input (no further condition). -/
import Derived.Test.YtaclplimbnihkaaMFnExactMoveRefa12
namespace Go.Proofs.Ytaclplimbnihkaa.Pure
open Go.RowKit Go.Proofs.Ytaclplimbnihkaa.PFnExactMoveRef Go.Proofs.YtaclplimbnihkaaW.PrintWords Go.Proofs.YtaclplimbnihkaaW.PrintLast

set_option linter.unusedVariables false
set_option linter.unusedSimpArgs false
/-! plain facts on whole numbers -/
theorem wrap_id {x : Int} (h1 : -9223372036854775808 ≤ x) (h2 : x ≤ 9223372036854775807) : wrap64 x = x := by
  unfold wrap64; omega
theorem td_pos {a b : Int} (h : 0 ≤ a) : a.tdiv b = a / b := Int.tdiv_eq_ediv_of_nonneg h
theorem td_neg {a b : Int} (h : a ≤ 0) : a.tdiv b = -((-a) / b) := by
  rw [← Int.tdiv_eq_ediv_of_nonneg (by omega : 0 ≤ -a), Int.neg_tdiv]; omega
theorem tm_pos {a b : Int} (h : 0 ≤ a) : a.tmod b = a % b := Int.tmod_eq_emod_of_nonneg h
theorem tm_neg {a b : Int} (h : a ≤ 0) : a.tmod b = -((-a) % b) := by
  rw [← Int.tmod_eq_emod_of_nonneg (by omega : 0 ≤ -a), Int.neg_tmod]; omega
theorem tm_zero (a b : Int) : a.tmod b = 0 ↔ a % b = 0 := by
  rw [← Int.dvd_iff_tmod_eq_zero, ← Int.dvd_iff_emod_eq_zero]
theorem ediv_is {a b q r : Int} (hb : 0 < b) (h : a = b * q + r) (h0 : 0 ≤ r) (h1 : r < b) : a / b = q := by
  rw [h, Int.add_comm, Int.add_mul_ediv_left _ _ (by omega), Int.ediv_eq_zero_of_lt h0 h1]; omega
theorem ediv_neg_of {a b : Int} (hb : 0 < b) (h : a.tmod b = 0) : a.tdiv b = a / b := by
  have e := Int.mul_tdiv_add_tmod a b
  rw [h] at e
  exact (ediv_is hb (q := a.tdiv b) (r := 0) (by omega) (by omega) hb).symm
theorem ediv_floor {a b : Int} (hb : 0 < b) (ha : a < 0) (h : a.tmod b ≠ 0) : a.tdiv b - 1 = a / b := by
  have e := Int.mul_tdiv_add_tmod a b
  have hm := tm_neg (a := a) (b := b) (by omega)
  have h0 := Int.emod_nonneg (-a) (by omega : b ≠ 0)
  have h1 := Int.emod_lt_of_pos (-a) hb
  refine (ediv_is hb (q := a.tdiv b - 1) (r := a.tmod b + b) ?_ (by omega) (by omega)).symm
  rw [Int.mul_sub]; omega
/-- The floor, as both programs reckon it. -/
theorem floor_is {a b : Int} (hb : 0 < b) (h1 : -4611686018427387904 ≤ a) (h2 : a ≤ 4611686018427387904) :
    (if b = 0 then (none) else (if (Int.tmod a b) = 0 then (some (wrap64 (Int.tdiv a b))) else (if ((decide (a < 0)) != (decide (b < 0))) = true then (some (wrap64 ((wrap64 (Int.tdiv a b)) - 1))) else (some (wrap64 (Int.tdiv a b)))))) = some (a / b) := by
  have hle : a / b ≤ 4611686018427387904 := by
    by_cases h : 0 ≤ a
    · exact Int.le_trans (Int.ediv_le_self b h) h2
    · have := Int.ediv_neg_of_neg_of_pos (by omega : a < 0) hb; omega
  have hge : -4611686018427387904 ≤ a / b := by
    by_cases h : 0 ≤ a
    · have := Int.ediv_nonneg h (by omega : 0 ≤ b); omega
    · exact Int.le_ediv_of_mul_le hb (by have : -4611686018427387904 * b ≤ -4611686018427387904 * 1 := by omega
                                         omega)
  rw [if_neg (by omega : ¬ b = 0)]
  by_cases hm : Int.tmod a b = 0
  · rw [if_pos hm, ediv_neg_of hb hm, wrap_id (by omega) (by omega)]
  · rw [if_neg hm]
    by_cases ha : a < 0
    · have e := ediv_floor hb ha hm
      rw [if_pos (by simp [ha]; omega), wrap_id (x := Int.tdiv a b) (by omega) (by omega), e, wrap_id (by omega) (by omega)]
    · rw [if_neg (by simp [ha]; omega), td_pos (by omega), wrap_id (by omega) (by omega)]

def goodRefB (r c : Int) : Bool := decide (1 ≤ r ∧ r ≤ 1000 ∧ 1 ≤ c ∧ c ≤ 200)
theorem specGoodRef_is (r c : Int) (a b : Bool) : spec_GoodRef.f r c a b = some (goodRefB r c) := by
  unfold spec_GoodRef.f goodRefB
  by_cases h1 : 1 ≤ r <;> by_cases h2 : r ≤ 1000 <;> by_cases h3 : 1 ≤ c <;> by_cases h4 : c ≤ 200 <;> simp [h1, h2, h3, h4]
theorem implGoodRef_is (r c : Int) (a b : Bool) : impl_GoodRef.f r c a b = some (goodRefB r c) := by
  unfold impl_GoodRef.f impl_Ref_place.f impl_place_good.f goodRefB
  simp only [Option.bind_some]
  by_cases h1 : 1 ≤ r <;> by_cases h2 : r ≤ 1000 <;> by_cases h3 : 1 ≤ c <;> by_cases h4 : c ≤ 200 <;> simp [h1, h2, h3, h4]

def goodAreaB (r c r2 c2 : Int) : Bool := goodRefB r c && goodRefB r2 c2
theorem specGoodArea_is (r c : Int) (a b : Bool) (r2 c2 : Int) (a2 b2 : Bool) : spec_GoodArea.f r c a b r2 c2 a2 b2 = some (goodAreaB r c r2 c2) := by
  unfold spec_GoodArea.f goodAreaB
  simp only [specGoodRef_is, Option.bind_some]
  cases goodRefB r c <;> simp
theorem implGoodArea_is (r c : Int) (a b : Bool) (r2 c2 : Int) (a2 b2 : Bool) : impl_GoodArea.f r c a b r2 c2 a2 b2 = some (goodAreaB r c r2 c2) := by
  unfold impl_GoodArea.f goodAreaB
  simp only [implGoodRef_is, Option.bind_some]
  cases goodRefB r c <;> simp

theorem eqRef_is (r c : Int) (a b : Bool) : laws_eqRef.f r c a b r c a b = some true := by
  unfold laws_eqRef.f; simp

theorem toArea_is (r c : Int) (a b : Bool) (r2 c2 : Int) (a2 b2 : Bool) : laws_toArea.f r c a b r2 c2 a2 b2 = some (r, c, a, b, r2, c2, a2, b2) := by
  unfold laws_toArea.f laws_toRef.f; rfl

theorem specMin_is (a b : Int) : spec_l3Min.f a b = some (min a b) := by
  unfold spec_l3Min.f
  by_cases h : a < b
  · rw [if_pos h]; congr 1; omega
  · rw [if_neg h]; congr 1; omega
theorem specMax_is (a b : Int) : spec_l3Max.f a b = some (max a b) := by
  unfold spec_l3Max.f
  by_cases h : a > b
  · rw [if_pos h]; congr 1; omega
  · rw [if_neg h]; congr 1; omega
theorem mn_is (a b : Int) : mn a b = min a b := by unfold mn; omega
theorem mx_is (a b : Int) : mx a b = max a b := by unfold mx; omega
/-- Normal's corners, whatever the fixes. -/
theorem specNormal_is (r c : Int) (a b : Bool) (r2 c2 : Int) (a2 b2 : Bool) : ∃ y1 y2 y3 y4, spec_l3Normal.f r c a b r2 c2 a2 b2 = some (min r r2, min c c2, y1, y2, max r r2, max c c2, y3, y4) := by
  unfold spec_l3Normal.f
  by_cases h1 : r > r2
  · by_cases h2 : c > c2
    · rw [if_pos h1, if_pos h2, show min r r2 = r2 from by omega, show min c c2 = c2 from by omega, show max r r2 = r from by omega, show max c c2 = c from by omega]; exact ⟨_, _, _, _, rfl⟩
    · rw [if_pos h1, if_neg h2, show min r r2 = r2 from by omega, show min c c2 = c from by omega, show max r r2 = r from by omega, show max c c2 = c2 from by omega]; exact ⟨_, _, _, _, rfl⟩
  · by_cases h2 : c > c2
    · rw [if_neg h1, if_pos h2, show min r r2 = r from by omega, show min c c2 = c2 from by omega, show max r r2 = r2 from by omega, show max c c2 = c from by omega]; exact ⟨_, _, _, _, rfl⟩
    · rw [if_neg h1, if_neg h2, show min r r2 = r from by omega, show min c c2 = c from by omega, show max r r2 = r2 from by omega, show max c c2 = c2 from by omega]; exact ⟨_, _, _, _, rfl⟩

/-- What Hull tells of two areas' corners. -/
def hullV (r c r2 c2 s d s2 d2 : Int) : Int × Int × Bool × Bool × Int × Int × Bool × Bool :=
  if goodAreaB r c r2 c2 && goodAreaB s d s2 d2 then (min (min r r2) (min s s2), min (min c c2) (min d d2), false, false, max (max r r2) (max s s2), max (max c c2) (max d d2), false, false) else (0, 0, false, false, 0, 0, false, false)
theorem specHull_is (k : Nat) (r c : Int) (a b : Bool) (r2 c2 : Int) (a2 b2 : Bool) (s d : Int) (e f : Bool) (s2 d2 : Int) (e2 f2 : Bool) :
    spec_Hull.f (k + 1) r c a b r2 c2 a2 b2 s d e f s2 d2 e2 f2 = some (hullV r c r2 c2 s d s2 d2) := by
  unfold spec_Hull.f hullV
  simp only [specGoodArea_is, Option.bind_some]
  obtain ⟨y1, y2, y3, y4, e1⟩ := specNormal_is r c a b r2 c2 a2 b2
  obtain ⟨z1, z2, z3, z4, e2⟩ := specNormal_is s d e f s2 d2 e2 f2
  cases h1 : goodAreaB r c r2 c2 <;> cases h2 : goodAreaB s d s2 d2 <;>
    simp [spec_Hull.j0, e1, e2, specMin_is, specMax_is, spec_l3Area.f]

def moveB (r c r2 c2 R C s d : Int) : Bool := goodAreaB r c r2 c2 && (goodRefB R C && (decide (max r r2 + (R - min r r2) ≤ 1000 ∧ max c c2 + (C - min c c2) ≤ 200) && decide (min r r2 ≤ s ∧ s ≤ max r r2 ∧ min c c2 ≤ d ∧ d ≤ max c c2)))
theorem goodRef_facts {r c : Int} (h : goodRefB r c = true) : 1 ≤ r ∧ r ≤ 1000 ∧ 1 ≤ c ∧ c ≤ 200 := by
  unfold goodRefB at h; exact of_decide_eq_true h
theorem goodArea_facts {r c r2 c2 : Int} (h : goodAreaB r c r2 c2 = true) : (1 ≤ r ∧ r ≤ 1000 ∧ 1 ≤ c ∧ c ≤ 200) ∧ (1 ≤ r2 ∧ r2 ≤ 1000 ∧ 1 ≤ c2 ∧ c2 ≤ 200) := by
  unfold goodAreaB at h; rw [Bool.and_eq_true] at h; exact ⟨goodRef_facts h.1, goodRef_facts h.2⟩
def moveV (r c r2 c2 R C s d : Int) (e f : Bool) : Int × Int × Bool × Bool := if moveB r c r2 c2 R C s d = true then (s + (R - min r r2), d + (C - min c c2), e, f) else (s, d, e, f)
theorem holds_is (n1 n2 x1 x2 s d : Int) : (if s ≥ n1 then (if s ≤ x1 then (if d ≥ n2 then (some (decide (d ≤ x2))) else (some false)) else (some false)) else (some false)) = some (decide (n1 ≤ s ∧ s ≤ x1 ∧ n2 ≤ d ∧ d ≤ x2)) := by
  by_cases h1 : s ≥ n1 <;> by_cases h2 : s ≤ x1 <;> by_cases h3 : d ≥ n2 <;> by_cases h4 : d ≤ x2 <;> simp [h1, h2, h3, h4] <;> omega
theorem specPlace_is (a b : Int) : spec_l3Place.f a b = some (goodRefB a b) := by
  unfold spec_l3Place.f; rw [specGoodRef_is]; rfl
theorem specMove_is (k : Nat) (r c : Int) (a b : Bool) (r2 c2 : Int) (a2 b2 : Bool) (R C s d : Int) (e f : Bool) :
    spec_MoveRef.f (k + 1) r c a b r2 c2 a2 b2 R C s d e f = some (moveV r c r2 c2 R C s d e f) := by
  unfold spec_MoveRef.f spec_l5Moves.f moveV moveB
  simp only [specGoodArea_is, Option.bind_some]
  cases hA : goodAreaB r c r2 c2
  · simp
  · have fA := goodArea_facts hA
    simp only [if_true, specHull_is k, Option.bind_some, hullV, hA, Bool.and_self, specPlace_is]
    rw [show min (min r r2) (min r r2) = min r r2 from by omega, show min (min c c2) (min c c2) = min c c2 from by omega, show max (max r r2) (max r r2) = max r r2 from by omega, show max (max c c2) (max c c2) = max c c2 from by omega]
    cases hP : goodRefB R C
    · simp
    · have fP := goodRef_facts hP
      simp only [if_true]
      rw [wrap_id (x := R - min r r2) (by omega) (by omega), wrap_id (x := C - min c c2) (by omega) (by omega), wrap_id (x := max r r2 + (R - min r r2)) (by omega) (by omega), wrap_id (x := max c c2 + (C - min c c2)) (by omega) (by omega)]
      have eg : goodRefB (max r r2 + (R - min r r2)) (max c c2 + (C - min c c2)) = decide (max r r2 + (R - min r r2) ≤ 1000 ∧ max c c2 + (C - min c c2) ≤ 200) := by
        unfold goodRefB; rw [decide_eq_decide]; omega
      rw [eg]
      by_cases h2 : max r r2 + (R - min r r2) ≤ 1000 ∧ max c c2 + (C - min c c2) ≤ 200
      · rw [decide_eq_true h2]
        simp only [if_true, Option.bind_some, spec_l5Inside.f, holds_is, Bool.true_and]
        by_cases h3 : min r r2 ≤ s ∧ s ≤ max r r2 ∧ min c c2 ≤ d ∧ d ≤ max c c2
        · rw [decide_eq_true h3]
          simp only [if_true]
          rw [wrap_id (x := s + (R - min r r2)) (by omega) (by omega), wrap_id (x := d + (C - min c c2)) (by omega) (by omega)]
        · rw [decide_eq_false h3]; simp
      · rw [decide_eq_false h2]; simp
theorem implMove_is (r c : Int) (a b : Bool) (r2 c2 : Int) (a2 b2 : Bool) (R C s d : Int) (e f : Bool) :
    impl_MoveRef.f r c a b r2 c2 a2 b2 R C s d e f = some (moveV r c r2 c2 R C s d e f) := by
  unfold impl_MoveRef.f impl_Move_way.f moveV moveB
  simp only [implGoodArea_is, implGoodRef_is, Option.bind_some]
  cases hA : goodAreaB r c r2 c2
  · simp
  · have fA := goodArea_facts hA
    simp only [if_true, impl_Area_block.f, Option.bind_some, impl_block_height.f, impl_block_width.f, impl_Ref_place.f, impl_block_holds.f, holds_is, impl_moved.f, mn_is, mx_is]
    cases hP : goodRefB R C
    · have : R < 1 ∨ R > 1000 ∨ C < 1 ∨ C > 200 := by
        unfold goodRefB at hP; have := of_decide_eq_false hP; omega
      by_cases h1 : R < 1
      · simp [h1]
      · by_cases h2 : R > 1000
        · simp [h1, h2]
        · by_cases h3 : C < 1
          · simp [h1, h2, h3]
          · have h4 : C > 200 := by omega
            simp [h1, h2, h3, h4]
    · have fP := goodRef_facts hP
      rw [if_neg (by omega), if_neg (by omega), if_neg (by omega), if_neg (by omega)]
      rw [wrap_id (x := max r r2 - min r r2) (by omega) (by omega), wrap_id (x := max r r2 - min r r2 + 1) (by omega) (by omega), wrap_id (x := R + (max r r2 - min r r2 + 1)) (by omega) (by omega), wrap_id (x := R + (max r r2 - min r r2 + 1) - 1) (by omega) (by omega)]
      rw [wrap_id (x := max c c2 - min c c2) (by omega) (by omega), wrap_id (x := max c c2 - min c c2 + 1) (by omega) (by omega), wrap_id (x := C + (max c c2 - min c c2 + 1)) (by omega) (by omega), wrap_id (x := C + (max c c2 - min c c2 + 1) - 1) (by omega) (by omega)]
      rw [wrap_id (x := R - min r r2) (by omega) (by omega), wrap_id (x := C - min c c2) (by omega) (by omega)]
      by_cases h2 : max r r2 + (R - min r r2) ≤ 1000 ∧ max c c2 + (C - min c c2) ≤ 200
      · rw [if_neg (by omega), if_neg (by omega), decide_eq_true h2]
        simp only [if_true, Option.bind_some, Bool.true_and]
        by_cases h3 : min r r2 ≤ s ∧ s ≤ max r r2 ∧ min c c2 ≤ d ∧ d ≤ max c c2
        · have hg : goodRefB s d = true := by unfold goodRefB; rw [decide_eq_true_eq]; omega
          rw [decide_eq_true h3, hg]
          simp only [if_true]
          rw [wrap_id (x := s + (R - min r r2)) (by omega) (by omega), wrap_id (x := d + (C - min c c2)) (by omega) (by omega)]
        · rw [decide_eq_false h3]; cases goodRefB s d <;> simp
      · rw [decide_eq_false h2]
        by_cases h5 : R + (max r r2 - min r r2 + 1) - 1 > 1000
        · rw [if_pos h5]; simp
        · rw [if_neg h5, if_pos (by omega)]; simp
theorem FnExactMoveRef : ∀ (a0_0 : Int) (a0_1 : Int) (a0_2 : Bool) (a0_3 : Bool) (a0_4 : Int) (a0_5 : Int) (a0_6 : Bool) (a0_7 : Bool) (a0_8 : Int) (a0_9 : Int) (a1_0 : Int) (a1_1 : Int) (a1_2 : Bool) (a1_3 : Bool), (Lit.int .i64 a0_0).wf = true → (Lit.int .i64 a0_1).wf = true → (Lit.int .i64 a0_4).wf = true → (Lit.int .i64 a0_5).wf = true → (Lit.int .i64 a0_8).wf = true → (Lit.int .i64 a0_9).wf = true → (Lit.int .i64 a1_0).wf = true → (Lit.int .i64 a1_1).wf = true → ∃ k, laws_FnExactMoveRef.f k a0_0 a0_1 a0_2 a0_3 a0_4 a0_5 a0_6 a0_7 a0_8 a0_9 a1_0 a1_1 a1_2 a1_3 = some true := by
  intro r c a b r2 c2 a2 b2 R C s d e f _ _ _ _ _ _ _ _
  refine ⟨1, ?_⟩
  unfold laws_FnExactMoveRef.f
  simp only [laws_toMove.f, toArea_is, laws_toRef.f, Option.bind_some, specMove_is 0, implMove_is]
  obtain ⟨y1, y2, y3, y4⟩ := moveV r c r2 c2 R C s d e f
  simp [eqRef_is]

end Go.Proofs.Ytaclplimbnihkaa.Pure
