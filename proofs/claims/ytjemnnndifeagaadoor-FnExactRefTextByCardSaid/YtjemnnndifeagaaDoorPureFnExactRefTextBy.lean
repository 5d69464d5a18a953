/- The plain law of FnExactRefTextBy: what the program computes is what the reference computes, for every input (no further condition). -/
import Derived.Test.YtjemnnndifeagaaDoorMFnExactRefTextBya4
namespace Go.Proofs.YtjemnnndifeagaaDoor.Pure
open Go.RowKit Go.Proofs.YtjemnnndifeagaaDoor.PFnExactRefTextBy Go.Proofs.YtjemnnndifeagaaDoorW.PrintWords Go.Proofs.YtjemnnndifeagaaDoorW.PrintLast

set_option linter.unusedVariables false
set_option linter.unusedSimpArgs false
/-! plain facts on whole numbers -/
theorem wrap_id {x : Int} (h1 : -9223372036854775808 ≤ x) (h2 : x ≤ 9223372036854775807) : wrap64 x = x := by
  unfold wrap64; omega
theorem td_pos {a b : Int} (h : 0 ≤ a) : a.tdiv b = a / b := Int.tdiv_eq_ediv_of_nonneg h
theorem td_neg {a b : Int} (h : a ≤ 0) : a.tdiv b = -((-a) / b) := by
  rw [← Int.tdiv_eq_ediv_of_nonneg (by omega : 0 ≤ -a), Int.neg_tdiv]; omega
theorem tm_pos {a b : Int} (h : 0 ≤ a) : a.tmod b = a % b := Int.tmod_eq_emod_of_nonneg h
theorem tm_neg {a b : Int} (h : a ≤ 0) : a.tmod b = -((-a) % b) := by
  rw [← Int.tmod_eq_emod_of_nonneg (by omega : 0 ≤ -a), Int.neg_tmod]; omega
theorem tm_zero (a b : Int) : a.tmod b = 0 ↔ a % b = 0 := by
  rw [← Int.dvd_iff_tmod_eq_zero, ← Int.dvd_iff_emod_eq_zero]
theorem ediv_is {a b q r : Int} (hb : 0 < b) (h : a = b * q + r) (h0 : 0 ≤ r) (h1 : r < b) : a / b = q := by
  rw [h, Int.add_comm, Int.add_mul_ediv_left _ _ (by omega), Int.ediv_eq_zero_of_lt h0 h1]; omega
theorem ediv_neg_of {a b : Int} (hb : 0 < b) (h : a.tmod b = 0) : a.tdiv b = a / b := by
  have e := Int.mul_tdiv_add_tmod a b
  rw [h] at e
  exact (ediv_is hb (q := a.tdiv b) (r := 0) (by omega) (by omega) hb).symm
theorem ediv_floor {a b : Int} (hb : 0 < b) (ha : a < 0) (h : a.tmod b ≠ 0) : a.tdiv b - 1 = a / b := by
  have e := Int.mul_tdiv_add_tmod a b
  have hm := tm_neg (a := a) (b := b) (by omega)
  have h0 := Int.emod_nonneg (-a) (by omega : b ≠ 0)
  have h1 := Int.emod_lt_of_pos (-a) hb
  refine (ediv_is hb (q := a.tdiv b - 1) (r := a.tmod b + b) ?_ (by omega) (by omega)).symm
  rw [Int.mul_sub]; omega
/-- The floor, as both programs reckon it. -/
theorem floor_is {a b : Int} (hb : 0 < b) (h1 : -4611686018427387904 ≤ a) (h2 : a ≤ 4611686018427387904) :
    (if b = 0 then (none) else (if (Int.tmod a b) = 0 then (some (wrap64 (Int.tdiv a b))) else (if ((decide (a < 0)) != (decide (b < 0))) = true then (some (wrap64 ((wrap64 (Int.tdiv a b)) - 1))) else (some (wrap64 (Int.tdiv a b)))))) = some (a / b) := by
  have hle : a / b ≤ 4611686018427387904 := by
    by_cases h : 0 ≤ a
    · exact Int.le_trans (Int.ediv_le_self b h) h2
    · have := Int.ediv_neg_of_neg_of_pos (by omega : a < 0) hb; omega
  have hge : -4611686018427387904 ≤ a / b := by
    by_cases h : 0 ≤ a
    · have := Int.ediv_nonneg h (by omega : 0 ≤ b); omega
    · exact Int.le_ediv_of_mul_le hb (by have : -4611686018427387904 * b ≤ -4611686018427387904 * 1 := by omega
                                         omega)
  rw [if_neg (by omega : ¬ b = 0)]
  by_cases hm : Int.tmod a b = 0
  · rw [if_pos hm, ediv_neg_of hb hm, wrap_id (by omega) (by omega)]
  · rw [if_neg hm]
    by_cases ha : a < 0
    · have e := ediv_floor hb ha hm
      rw [if_pos (by simp [ha]; omega), wrap_id (x := Int.tdiv a b) (by omega) (by omega), e, wrap_id (by omega) (by omega)]
    · rw [if_neg (by simp [ha]; omega), td_pos (by omega), wrap_id (by omega) (by omega)]

def goodRefB (r c : Int) : Bool := decide (1 ≤ r ∧ r ≤ 1000 ∧ 1 ≤ c ∧ c ≤ 200)
theorem specGoodRef_is (r c : Int) (a b : Bool) : spec_GoodRef.f r c a b = some (goodRefB r c) := by
  unfold spec_GoodRef.f goodRefB
  by_cases h1 : 1 ≤ r <;> by_cases h2 : r ≤ 1000 <;> by_cases h3 : 1 ≤ c <;> by_cases h4 : c ≤ 200 <;> simp [h1, h2, h3, h4]
theorem implGoodRef_is (r c : Int) (a b : Bool) : impl_GoodRef.f r c a b = some (goodRefB r c) := by
  unfold impl_GoodRef.f impl_Ref_place.f impl_place_good.f goodRefB
  simp only [Option.bind_some]
  by_cases h1 : 1 ≤ r <;> by_cases h2 : r ≤ 1000 <;> by_cases h3 : 1 ≤ c <;> by_cases h4 : c ≤ 200 <;> simp [h1, h2, h3, h4]

/-- A number's decimal text. -/
def txt (n : Int) : ByteArray := ⟨(Lib.itoa n).toArray⟩
theorem l1Num_is (n : Int) (h1 : -1000000000000000000 < n) (h2 : n < 1000000000000000000) : spec_l1Num.f n = some (txt n) := by unfold spec_l1Num.f; rw [if_pos ⟨h1, h2⟩]; rfl
theorem itoa_is (n : Int) (h1 : -1000000000000000000 < n) (h2 : n < 1000000000000000000) : strconv_Itoa.f n = some (txt n) := by unfold strconv_Itoa.f; rw [if_pos ⟨by omega, by omega⟩]; rfl
theorem txt_le (n : Int) (h1 : -1000000000000000000 < n) (h2 : n < 1000000000000000000) : (txt n).size ≤ 21 := by
  have := Lib.itoa_length_le n (by omega) (by omega)
  show (Lib.itoa n).toArray.size ≤ 21
  simpa using this

theorem txt_neg (d : Int) (h : d < 0) : txt d = (⟨#[45]⟩ : ByteArray) ++ txt (-d) := by
  have e1 : Lib.itoa d = 45 :: Lib.decDigits d.natAbs := by unfold Lib.itoa; rw [if_pos h]
  have e2 : Lib.itoa (-d) = Lib.decDigits d.natAbs := by unfold Lib.itoa; rw [if_neg (by omega)]; congr 1; omega
  apply ByteArray.ext
  show (Lib.itoa d).toArray = _
  rw [e1, ByteArray.data_append]
  show _ = #[45] ++ (Lib.itoa (-d)).toArray
  rw [e2]; simp
theorem txt_size (u : Nat) : (txt (u : Int)).size = Lib.nDigits u := by
  have e : Lib.itoa (u : Int) = Lib.decDigits u := by unfold Lib.itoa; rw [if_neg (by omega)]; simp
  show (Lib.itoa (u : Int)).toArray.size = _
  rw [e]; simp [Lib.decDigits_length]
theorem txt_pos (n : Int) (h1 : -1000000000000000000 < n) (h2 : n < 1000000000000000000) : 1 ≤ (txt n).size := by
  rcases Int.lt_or_le n 0 with h | h
  · rw [txt_neg n h, ByteArray.size_append]; show 1 ≤ 1 + _; omega
  · obtain ⟨u, rfl⟩ : ∃ u : Nat, n = u := ⟨n.toNat, by omega⟩
    rw [txt_size]; exact Lib.nDigits_pos u
theorem ba_assoc (a b c : ByteArray) : a ++ b ++ c = a ++ (b ++ c) := ByteArray.append_assoc
theorem ba_ext {a b : ByteArray} (h : a.data.toList = b.data.toList) : a = b := ByteArray.ext (Array.toList_inj.1 h)

theorem by_same (a : ByteArray) (ha : a.size ≤ 10) (n m : Int) (fix : Bool) (h1 : -5000 ≤ n) (h2 : n ≤ 5000) (h3 : -5000 ≤ m) (h4 : m ≤ 5000) :
    ∃ r, spec_l3By.f a n m fix = some r ∧ impl_partBy.f a n fix m = some r ∧ r.size ≤ 100 := by
  have z1 : (⟨#[91]⟩ : ByteArray).size = 1 := rfl
  have z2 : (⟨#[91, 45]⟩ : ByteArray).size = 2 := rfl
  have z3 : (⟨#[93]⟩ : ByteArray).size = 1 := rfl
  have z4 : (⟨#[91, 45]⟩ : ByteArray) = (⟨#[91]⟩ : ByteArray) ++ (⟨#[45]⟩ : ByteArray) := rfl
  have hw : wrap64 (n - m) = n - m := wrap_id (by omega) (by omega)
  have ln := txt_le n (by omega) (by omega)
  have ld := txt_le (n - m) (by omega) (by omega)
  have le := txt_le (-(n - m)) (by omega) (by omega)
  unfold spec_l3By.f impl_partBy.f
  cases fix
  · by_cases he : n = m
    · exact ⟨a, by simp [he], by simp [he], by omega⟩
    · by_cases hlt : n - m < 0
      · refine ⟨((a ++ (⟨#[91]⟩ : ByteArray)) ++ txt (n - m)) ++ (⟨#[93]⟩ : ByteArray), ?_, ?_, by simp only [ByteArray.size_append, z1, z3]; omega⟩
        · rw [if_neg (by decide), if_neg he, hw, if_pos hlt, if_pos (by omega), wrap_id (x := -(n - m)) (by omega) (by omega), l1Num_is (-(n - m)) (by omega) (by omega)]
          simp only [Option.bind_some, ByteArray.size_append, z2]
          rw [if_pos (by omega), if_pos (by omega), txt_neg (n - m) hlt, z4]
          simp only [ba_assoc]
        · rw [if_neg (by decide), if_neg he, hw, if_pos (by omega), itoa_is (n - m) (by omega) (by omega)]
          simp only [Option.bind_some, ByteArray.size_append, z1]
          rw [if_pos (by omega), if_pos (by omega)]
      · refine ⟨((a ++ (⟨#[91]⟩ : ByteArray)) ++ txt (n - m)) ++ (⟨#[93]⟩ : ByteArray), ?_, ?_, by simp only [ByteArray.size_append, z1, z3]; omega⟩
        · rw [if_neg (by decide), if_neg he, hw, if_neg hlt, if_pos (by omega), l1Num_is (n - m) (by omega) (by omega)]
          simp only [Option.bind_some, ByteArray.size_append, z1]
          rw [if_pos (by omega), if_pos (by omega)]
        · rw [if_neg (by decide), if_neg he, hw, if_pos (by omega), itoa_is (n - m) (by omega) (by omega)]
          simp only [Option.bind_some, ByteArray.size_append, z1]
          rw [if_pos (by omega), if_pos (by omega)]
  · refine ⟨a ++ txt n, ?_, ?_, by simp only [ByteArray.size_append]; omega⟩
    · rw [if_pos rfl, l1Num_is n (by omega) (by omega)]; simp only [Option.bind_some]; rw [if_pos (by omega)]
    · rw [if_pos rfl, itoa_is n (by omega) (by omega)]; simp only [Option.bind_some]; rw [if_pos (by omega)]
theorem specPlace_is (r c : Int) : spec_l3Place.f r c = some (goodRefB r c) := by
  unfold spec_l3Place.f; simp only [specGoodRef_is, Option.bind_some]
theorem implPlace_is (r c : Int) : impl_place_good.f r c = some (goodRefB r c) := by
  unfold impl_place_good.f goodRefB
  by_cases h1 : 1 ≤ r <;> by_cases h2 : r ≤ 1000 <;> by_cases h3 : 1 ≤ c <;> by_cases h4 : c ≤ 200 <;> simp [h1, h2, h3, h4]
theorem refTextBy_same (k : Nat) (r c : Int) (a b : Bool) (row col : Int) : ∃ t, spec_RefTextBy.f (k + 1) r c a b row col = some t ∧ impl_RefTextBy.f (k + 1) r c a b row col = some t ∧ t.size ≤ 200 := by
  have e0 : (⟨#[]⟩ : ByteArray).size = 0 := rfl
  unfold spec_RefTextBy.f impl_RefTextBy.f
  rw [specGoodRef_is, implGoodRef_is, specPlace_is, implPlace_is]
  simp only [Option.bind_some]
  by_cases h : goodRefB r c = true
  · by_cases h' : goodRefB row col = true
    · have b1 : 1 ≤ r ∧ r ≤ 1000 ∧ 1 ≤ c ∧ c ≤ 200 := by unfold goodRefB at h; exact of_decide_eq_true h
      have b2 : 1 ≤ row ∧ row ≤ 1000 ∧ 1 ≤ col ∧ col ≤ 200 := by unfold goodRefB at h'; exact of_decide_eq_true h'
      obtain ⟨x, hx1, hx2, hx3⟩ := by_same (⟨#[82]⟩ : ByteArray) (by decide) r row a (by omega) (by omega) (by omega) (by omega)
      obtain ⟨y, hy1, hy2, hy3⟩ := by_same (⟨#[67]⟩ : ByteArray) (by decide) c col b (by omega) (by omega) (by omega) (by omega)
      refine ⟨x ++ y, ?_, ?_, by rw [ByteArray.size_append]; omega⟩
      · rw [h, h']; simp only [if_true, Bool.not_true, spec_RefTextBy.j0, Bool.false_eq_true, if_false, hx1, hy1, Option.bind_some]; rw [if_pos (by omega)]
      · rw [h, h']; simp only [if_true, Bool.not_true, impl_RefTextBy.j0, Bool.false_eq_true, if_false, hx2, hy2, Option.bind_some]; rw [if_pos (by omega)]
    · have h'' : goodRefB row col = false := by simpa using h'
      rw [h, h'']; exact ⟨⟨#[]⟩, by simp [spec_RefTextBy.j0], by simp [impl_RefTextBy.j0], by omega⟩
  · have h'' : goodRefB r c = false := by simpa using h
    rw [h'']; exact ⟨⟨#[]⟩, by simp [spec_RefTextBy.j0], by simp [impl_RefTextBy.j0], by omega⟩
theorem FnExactRefTextBy : ∀ (a0_0 : Int) (a0_1 : Int) (a0_2 : Bool) (a0_3 : Bool) (a1 : Int) (a2 : Int), (Lit.int .i64 a0_0).wf = true → (Lit.int .i64 a0_1).wf = true → (Lit.int .i64 a1).wf = true → (Lit.int .i64 a2).wf = true → ∃ k, laws_FnExactRefTextBy.f k a0_0 a0_1 a0_2 a0_3 a1 a2 = some true := by
  intro r c a b row col _ _ _ _
  obtain ⟨t, h1, h2, _⟩ := refTextBy_same 0 r c a b row col
  refine ⟨1, ?_⟩
  unfold laws_FnExactRefTextBy.f laws_toRef.f
  simp only [Option.bind_some, h1, h2, if_true]

end Go.Proofs.YtjemnnndifeagaaDoor.Pure
