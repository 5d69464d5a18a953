/- The plain law of FnExactRefText: what the program computes is what the reference computes, for every input (no further condition). -/
import Derived.Test.YtjemnnndifeagaaDoorMFnExactRefTexta4
namespace Go.Proofs.YtjemnnndifeagaaDoor.Pure
open Go.RowKit Go.Proofs.YtjemnnndifeagaaDoor.PFnExactRefText Go.Proofs.YtjemnnndifeagaaDoorW.PrintWords Go.Proofs.YtjemnnndifeagaaDoorW.PrintLast

set_option linter.unusedVariables false
set_option linter.unusedSimpArgs false
/-! plain facts on whole numbers -/
theorem wrap_id {x : Int} (h1 : -9223372036854775808 ≤ x) (h2 : x ≤ 9223372036854775807) : wrap64 x = x := by
  unfold wrap64; omega
theorem td_pos {a b : Int} (h : 0 ≤ a) : a.tdiv b = a / b := Int.tdiv_eq_ediv_of_nonneg h
theorem td_neg {a b : Int} (h : a ≤ 0) : a.tdiv b = -((-a) / b) := by
  rw [← Int.tdiv_eq_ediv_of_nonneg (by omega : 0 ≤ -a), Int.neg_tdiv]; omega
theorem tm_pos {a b : Int} (h : 0 ≤ a) : a.tmod b = a % b := Int.tmod_eq_emod_of_nonneg h
theorem tm_neg {a b : Int} (h : a ≤ 0) : a.tmod b = -((-a) % b) := by
  rw [← Int.tmod_eq_emod_of_nonneg (by omega : 0 ≤ -a), Int.neg_tmod]; omega
theorem tm_zero (a b : Int) : a.tmod b = 0 ↔ a % b = 0 := by
  rw [← Int.dvd_iff_tmod_eq_zero, ← Int.dvd_iff_emod_eq_zero]
theorem ediv_is {a b q r : Int} (hb : 0 < b) (h : a = b * q + r) (h0 : 0 ≤ r) (h1 : r < b) : a / b = q := by
  rw [h, Int.add_comm, Int.add_mul_ediv_left _ _ (by omega), Int.ediv_eq_zero_of_lt h0 h1]; omega
theorem ediv_neg_of {a b : Int} (hb : 0 < b) (h : a.tmod b = 0) : a.tdiv b = a / b := by
  have e := Int.mul_tdiv_add_tmod a b
  rw [h] at e
  exact (ediv_is hb (q := a.tdiv b) (r := 0) (by omega) (by omega) hb).symm
theorem ediv_floor {a b : Int} (hb : 0 < b) (ha : a < 0) (h : a.tmod b ≠ 0) : a.tdiv b - 1 = a / b := by
  have e := Int.mul_tdiv_add_tmod a b
  have hm := tm_neg (a := a) (b := b) (by omega)
  have h0 := Int.emod_nonneg (-a) (by omega : b ≠ 0)
  have h1 := Int.emod_lt_of_pos (-a) hb
  refine (ediv_is hb (q := a.tdiv b - 1) (r := a.tmod b + b) ?_ (by omega) (by omega)).symm
  rw [Int.mul_sub]; omega
/-- The floor, as both programs reckon it. -/
theorem floor_is {a b : Int} (hb : 0 < b) (h1 : -4611686018427387904 ≤ a) (h2 : a ≤ 4611686018427387904) :
    (if b = 0 then (none) else (if (Int.tmod a b) = 0 then (some (wrap64 (Int.tdiv a b))) else (if ((decide (a < 0)) != (decide (b < 0))) = true then (some (wrap64 ((wrap64 (Int.tdiv a b)) - 1))) else (some (wrap64 (Int.tdiv a b)))))) = some (a / b) := by
  have hle : a / b ≤ 4611686018427387904 := by
    by_cases h : 0 ≤ a
    · exact Int.le_trans (Int.ediv_le_self b h) h2
    · have := Int.ediv_neg_of_neg_of_pos (by omega : a < 0) hb; omega
  have hge : -4611686018427387904 ≤ a / b := by
    by_cases h : 0 ≤ a
    · have := Int.ediv_nonneg h (by omega : 0 ≤ b); omega
    · exact Int.le_ediv_of_mul_le hb (by have : -4611686018427387904 * b ≤ -4611686018427387904 * 1 := by omega
                                         omega)
  rw [if_neg (by omega : ¬ b = 0)]
  by_cases hm : Int.tmod a b = 0
  · rw [if_pos hm, ediv_neg_of hb hm, wrap_id (by omega) (by omega)]
  · rw [if_neg hm]
    by_cases ha : a < 0
    · have e := ediv_floor hb ha hm
      rw [if_pos (by simp [ha]; omega), wrap_id (x := Int.tdiv a b) (by omega) (by omega), e, wrap_id (by omega) (by omega)]
    · rw [if_neg (by simp [ha]; omega), td_pos (by omega), wrap_id (by omega) (by omega)]

def goodRefB (r c : Int) : Bool := decide (1 ≤ r ∧ r ≤ 1000 ∧ 1 ≤ c ∧ c ≤ 200)
theorem specGoodRef_is (r c : Int) (a b : Bool) : spec_GoodRef.f r c a b = some (goodRefB r c) := by
  unfold spec_GoodRef.f goodRefB
  by_cases h1 : 1 ≤ r <;> by_cases h2 : r ≤ 1000 <;> by_cases h3 : 1 ≤ c <;> by_cases h4 : c ≤ 200 <;> simp [h1, h2, h3, h4]
theorem implGoodRef_is (r c : Int) (a b : Bool) : impl_GoodRef.f r c a b = some (goodRefB r c) := by
  unfold impl_GoodRef.f impl_Ref_place.f impl_place_good.f goodRefB
  simp only [Option.bind_some]
  by_cases h1 : 1 ≤ r <;> by_cases h2 : r ≤ 1000 <;> by_cases h3 : 1 ≤ c <;> by_cases h4 : c ≤ 200 <;> simp [h1, h2, h3, h4]

theorem colName_l0_same : ∀ (k : Nat) (x : Int) (s : ByteArray), spec_ColName.l0 k x s = impl_ColName.l0 k x s
  | 0, _, _ => rfl
  | k + 1, x, s => by
    simp only [spec_ColName.l0, impl_ColName.l0]
    split
    · simp only [Option.bind_some]
      split
      · exact colName_l0_same k _ _
      · rfl
    · rfl
theorem colName_same (k : Nat) (n : Int) : spec_ColName.f k n = impl_ColName.f k n := by
  unfold spec_ColName.f impl_ColName.f
  have j : ∀ b, spec_ColName.j0 k n b = impl_ColName.j0 k n b := by
    intro b
    cases k with
    | zero => rfl
    | succ k => simp only [spec_ColName.j0, impl_ColName.j0, colName_l0_same]
  rw [j, j]
theorem colName_l0_ends : ∀ (d k : Nat) (x : Int) (s : ByteArray), x ≤ d → d < k → s.size + d ≤ 1000000 → ∃ r, spec_ColName.l0 k x s = some r := by
  intro d
  induction d with
  | zero =>
    intro k x s hx hk hs
    obtain ⟨k, rfl⟩ : ∃ m, k = m + 1 := ⟨k - 1, by omega⟩
    exact ⟨s, by simp only [spec_ColName.l0]; rw [if_neg (by omega)]⟩
  | succ d ih =>
    intro k x s hx hk hs
    obtain ⟨k, rfl⟩ : ∃ m, k = m + 1 := ⟨k - 1, by omega⟩
    by_cases h : x > 0
    · have hz : ∀ c : Int, (strOfNums [c]).size = 1 := fun c => rfl
      simp only [spec_ColName.l0]
      rw [if_pos h]
      simp only [Option.bind_some]
      rw [if_pos (by rw [hz]; omega)]
      refine ih k _ _ ?_ (by omega) ?_
      · have : Int.tdiv (wrap64 (x - 1)) 26 ≤ d := by
          have w : wrap64 (x - 1) = x - 1 := wrap_id (by omega) (by omega)
          rw [w, td_pos (by omega)]; omega
        have h0 : 0 ≤ Int.tdiv (wrap64 (x - 1)) 26 := by
          have w : wrap64 (x - 1) = x - 1 := wrap_id (by omega) (by omega)
          rw [w, td_pos (by omega)]; omega
        rw [wrap_id (by omega) (by omega)]; exact this
      · rw [ByteArray.size_append, hz]; omega
    · exact ⟨s, by simp only [spec_ColName.l0]; rw [if_neg h]⟩
theorem colName_ends (n : Int) : ∃ r, spec_ColName.f 300 n = some r := by
  unfold spec_ColName.f
  by_cases h : n < 1
  · rw [if_pos h]; exact ⟨_, rfl⟩
  · rw [if_neg h]
    by_cases h2 : n > 200
    · exact ⟨(⟨#[]⟩ : ByteArray), by simp [spec_ColName.j0, h2]⟩
    · obtain ⟨r, hr⟩ := colName_l0_ends 200 299 n (⟨#[]⟩ : ByteArray) (by omega) (by omega) (by show 0 + 200 ≤ 1000000; omega)
      exact ⟨r, by
        have : decide (n > 200) = false := decide_eq_false h2
        rw [this]; show spec_ColName.j0 (299 + 1) n false = some r
        simp only [spec_ColName.j0]; rw [if_neg (by decide)]; exact hr⟩

theorem colName_l0_sz : ∀ (d : Nat) (x : Int) (s : ByteArray), x ≤ d → s.size + d ≤ 1000000 → ∃ r, (∀ k, d < k → spec_ColName.l0 k x s = some r) ∧ r.size ≤ s.size + d := by
  intro d
  induction d with
  | zero =>
    intro x s hx hs
    refine ⟨s, fun k hk => ?_, by omega⟩
    obtain ⟨k, rfl⟩ : ∃ m, k = m + 1 := ⟨k - 1, by omega⟩
    simp only [spec_ColName.l0]; rw [if_neg (by omega)]
  | succ d ih =>
    intro x s hx hs
    by_cases h : x > 0
    · have hz : ∀ c : Int, (strOfNums [c]).size = 1 := fun c => rfl
      obtain ⟨r, h1, h2⟩ := ih (wrap64 (Int.tdiv (wrap64 (x - 1)) 26)) (strOfNums [(wrap64 (65 + (Int.tmod (wrap64 (x - 1)) 26))) % 256] ++ s) (by
        have : Int.tdiv (wrap64 (x - 1)) 26 ≤ d := by
          have w : wrap64 (x - 1) = x - 1 := wrap_id (by omega) (by omega)
          rw [w, td_pos (by omega)]; omega
        have h0 : 0 ≤ Int.tdiv (wrap64 (x - 1)) 26 := by
          have w : wrap64 (x - 1) = x - 1 := wrap_id (by omega) (by omega)
          rw [w, td_pos (by omega)]; omega
        rw [wrap_id (by omega) (by omega)]; exact this) (by rw [ByteArray.size_append, hz]; omega)
      refine ⟨r, fun k hk => ?_, by rw [ByteArray.size_append, hz] at h2; omega⟩
      obtain ⟨k, rfl⟩ : ∃ m, k = m + 1 := ⟨k - 1, by omega⟩
      simp only [spec_ColName.l0]
      rw [if_pos h]
      simp only [Option.bind_some]
      rw [if_pos (by rw [hz]; omega)]
      exact h1 k (by omega)
    · refine ⟨s, fun k hk => ?_, by omega⟩
      obtain ⟨k, rfl⟩ : ∃ m, k = m + 1 := ⟨k - 1, by omega⟩
      simp only [spec_ColName.l0]; rw [if_neg h]
theorem colName_sz (n : Int) : ∃ r, (∀ k, 300 ≤ k → spec_ColName.f k n = some r) ∧ r.size ≤ 1000 := by
  by_cases h : n < 1
  · refine ⟨⟨#[]⟩, fun k hk => ?_, by show 0 ≤ 1000; omega⟩
    obtain ⟨k, rfl⟩ : ∃ m, k = m + 1 := ⟨k - 1, by omega⟩
    unfold spec_ColName.f; rw [if_pos h]; simp [spec_ColName.j0]
  · by_cases h2 : n > 200
    · refine ⟨⟨#[]⟩, fun k hk => ?_, by show 0 ≤ 1000; omega⟩
      obtain ⟨k, rfl⟩ : ∃ m, k = m + 1 := ⟨k - 1, by omega⟩
      unfold spec_ColName.f; rw [if_neg h]; simp [spec_ColName.j0, h2]
    · obtain ⟨r, hr, hs⟩ := colName_l0_sz 200 n (⟨#[]⟩ : ByteArray) (by omega) (by show 0 + 200 ≤ 1000000; omega)
      refine ⟨r, fun k hk => ?_, by have : (⟨#[]⟩ : ByteArray).size = 0 := rfl; omega⟩
      obtain ⟨k, rfl⟩ : ∃ m, k = m + 1 := ⟨k - 1, by omega⟩
      unfold spec_ColName.f; rw [if_neg h]
      have : decide (n > 200) = false := decide_eq_false h2
      rw [this]
      simp only [spec_ColName.j0]; rw [if_neg (by decide)]; exact hr k (by omega)

/-- A number's decimal text. -/
def txt (n : Int) : ByteArray := ⟨(Lib.itoa n).toArray⟩
theorem l1Num_is (n : Int) (h1 : -1000000000000000000 < n) (h2 : n < 1000000000000000000) : spec_l1Num.f n = some (txt n) := by unfold spec_l1Num.f; rw [if_pos ⟨h1, h2⟩]; rfl
theorem itoa_is (n : Int) (h1 : -1000000000000000000 < n) (h2 : n < 1000000000000000000) : strconv_Itoa.f n = some (txt n) := by unfold strconv_Itoa.f; rw [if_pos ⟨by omega, by omega⟩]; rfl
theorem txt_le (n : Int) (h1 : -1000000000000000000 < n) (h2 : n < 1000000000000000000) : (txt n).size ≤ 21 := by
  have := Lib.itoa_length_le n (by omega) (by omega)
  show (Lib.itoa n).toArray.size ≤ 21
  simpa using this

/-- A reference's text, its column's name known. -/
def refTxt (r : Int) (a b : Bool) (n : ByteArray) : ByteArray := (((if b then (⟨#[36]⟩ : ByteArray) else ⟨#[]⟩) ++ n ++ (if a then (⟨#[36]⟩ : ByteArray) else ⟨#[]⟩)) ++ txt r)
theorem specRefText_is (k : Nat) (r c : Int) (a b : Bool) (h : goodRefB r c = true) (n : ByteArray) (hn : spec_ColName.f k c = some n) (hs : n.size ≤ 1000) : spec_RefText.f k r c a b = some (refTxt r a b n) := by
  have hb : 1 ≤ r ∧ r ≤ 1000 := by unfold goodRefB at h; have := of_decide_eq_true h; omega
  have ht := txt_le r (by omega) (by omega)
  have z0 : (⟨#[]⟩ : ByteArray).size = 0 := rfl
  have z1 : (⟨#[36]⟩ : ByteArray).size = 1 := rfl
  unfold spec_RefText.f spec_l3Fix.f refTxt
  rw [specGoodRef_is, h, hn, l1Num_is r (by omega) (by omega)]
  cases a <;> cases b <;> simp only [Option.bind_some, if_true, if_false, Bool.false_eq_true, ByteArray.size_append, z0, z1] <;> rw [if_pos (by omega), if_pos (by omega), if_pos (by omega)]
theorem implRefText_is (k : Nat) (r c : Int) (a b : Bool) (h : goodRefB r c = true) (n : ByteArray) (hn : impl_ColName.f k c = some n) (hs : n.size ≤ 1000) : impl_RefText.f (k + 1) r c a b = some (refTxt r a b n) := by
  have hb : 1 ≤ r ∧ r ≤ 1000 := by unfold goodRefB at h; have := of_decide_eq_true h; omega
  have ht := txt_le r (by omega) (by omega)
  have z0 : (⟨#[]⟩ : ByteArray).size = 0 := rfl
  have z1 : (⟨#[36]⟩ : ByteArray).size = 1 := rfl
  have z2 : ∀ x : ByteArray, x ++ (⟨#[]⟩ : ByteArray) = x := fun x => ByteArray.append_empty
  unfold impl_RefText.f refTxt
  rw [implGoodRef_is, h]
  simp only [Option.bind_some, if_true, impl_RefText.j0, hn, itoa_is r (by omega) (by omega)]
  cases a <;> cases b <;> simp only [Option.bind_some, if_true, if_false, Bool.false_eq_true, ByteArray.size_append, z0, z1, z2] <;> (first | (rw [if_pos (by omega), if_pos (by omega), if_pos (by omega)]) | (rw [if_pos (by omega), if_pos (by omega)]))
theorem FnExactRefText : ∀ (a0_0 : Int) (a0_1 : Int) (a0_2 : Bool) (a0_3 : Bool), (Lit.int .i64 a0_0).wf = true → (Lit.int .i64 a0_1).wf = true → ∃ k, laws_FnExactRefText.f k a0_0 a0_1 a0_2 a0_3 = some true := by
  intro r c a b _ _
  refine ⟨400, ?_⟩
  unfold laws_FnExactRefText.f laws_toRef.f
  simp only [Option.bind_some]
  by_cases h : goodRefB r c = true
  · obtain ⟨n, hn, hs⟩ := colName_sz c
    rw [specRefText_is 400 r c a b h n (hn 400 (by omega)) hs, implRefText_is 399 r c a b h n (by rw [← colName_same]; exact hn 399 (by omega)) hs]
    simp
  · have h' : goodRefB r c = false := by simpa using h
    unfold spec_RefText.f impl_RefText.f
    rw [specGoodRef_is, implGoodRef_is, h']
    simp

end Go.Proofs.YtjemnnndifeagaaDoor.Pure
