/- The plain law of FnExactDateText: what the program computes is what the reference computes, for every input (no further condition). -/
import Derived.Test.YtjemnnndifeagaaDoorMFnExactDateTexta5
namespace Go.Proofs.YtjemnnndifeagaaDoor.Pure
open Go.RowKit Go.Proofs.YtjemnnndifeagaaDoor.PFnExactDateText Go.Proofs.YtjemnnndifeagaaDoorW.PrintWords Go.Proofs.YtjemnnndifeagaaDoorW.PrintLast

set_option linter.unusedVariables false
set_option linter.unusedSimpArgs false
/-! plain facts on whole numbers -/
theorem wrap_id {x : Int} (h1 : -9223372036854775808 ≤ x) (h2 : x ≤ 9223372036854775807) : wrap64 x = x := by
  unfold wrap64; omega
theorem td_pos {a b : Int} (h : 0 ≤ a) : a.tdiv b = a / b := Int.tdiv_eq_ediv_of_nonneg h
theorem td_neg {a b : Int} (h : a ≤ 0) : a.tdiv b = -((-a) / b) := by
  rw [← Int.tdiv_eq_ediv_of_nonneg (by omega : 0 ≤ -a), Int.neg_tdiv]; omega
theorem tm_pos {a b : Int} (h : 0 ≤ a) : a.tmod b = a % b := Int.tmod_eq_emod_of_nonneg h
theorem tm_neg {a b : Int} (h : a ≤ 0) : a.tmod b = -((-a) % b) := by
  rw [← Int.tmod_eq_emod_of_nonneg (by omega : 0 ≤ -a), Int.neg_tmod]; omega
theorem tm_zero (a b : Int) : a.tmod b = 0 ↔ a % b = 0 := by
  rw [← Int.dvd_iff_tmod_eq_zero, ← Int.dvd_iff_emod_eq_zero]
theorem ediv_is {a b q r : Int} (hb : 0 < b) (h : a = b * q + r) (h0 : 0 ≤ r) (h1 : r < b) : a / b = q := by
  rw [h, Int.add_comm, Int.add_mul_ediv_left _ _ (by omega), Int.ediv_eq_zero_of_lt h0 h1]; omega
theorem ediv_neg_of {a b : Int} (hb : 0 < b) (h : a.tmod b = 0) : a.tdiv b = a / b := by
  have e := Int.mul_tdiv_add_tmod a b
  rw [h] at e
  exact (ediv_is hb (q := a.tdiv b) (r := 0) (by omega) (by omega) hb).symm
theorem ediv_floor {a b : Int} (hb : 0 < b) (ha : a < 0) (h : a.tmod b ≠ 0) : a.tdiv b - 1 = a / b := by
  have e := Int.mul_tdiv_add_tmod a b
  have hm := tm_neg (a := a) (b := b) (by omega)
  have h0 := Int.emod_nonneg (-a) (by omega : b ≠ 0)
  have h1 := Int.emod_lt_of_pos (-a) hb
  refine (ediv_is hb (q := a.tdiv b - 1) (r := a.tmod b + b) ?_ (by omega) (by omega)).symm
  rw [Int.mul_sub]; omega
/-- The floor, as both programs reckon it. -/
theorem floor_is {a b : Int} (hb : 0 < b) (h1 : -4611686018427387904 ≤ a) (h2 : a ≤ 4611686018427387904) :
    (if b = 0 then (none) else (if (Int.tmod a b) = 0 then (some (wrap64 (Int.tdiv a b))) else (if ((decide (a < 0)) != (decide (b < 0))) = true then (some (wrap64 ((wrap64 (Int.tdiv a b)) - 1))) else (some (wrap64 (Int.tdiv a b)))))) = some (a / b) := by
  have hle : a / b ≤ 4611686018427387904 := by
    by_cases h : 0 ≤ a
    · exact Int.le_trans (Int.ediv_le_self b h) h2
    · have := Int.ediv_neg_of_neg_of_pos (by omega : a < 0) hb; omega
  have hge : -4611686018427387904 ≤ a / b := by
    by_cases h : 0 ≤ a
    · have := Int.ediv_nonneg h (by omega : 0 ≤ b); omega
    · exact Int.le_ediv_of_mul_le hb (by have : -4611686018427387904 * b ≤ -4611686018427387904 * 1 := by omega
                                         omega)
  rw [if_neg (by omega : ¬ b = 0)]
  by_cases hm : Int.tmod a b = 0
  · rw [if_pos hm, ediv_neg_of hb hm, wrap_id (by omega) (by omega)]
  · rw [if_neg hm]
    by_cases ha : a < 0
    · have e := ediv_floor hb ha hm
      rw [if_pos (by simp [ha]; omega), wrap_id (x := Int.tdiv a b) (by omega) (by omega), e, wrap_id (by omega) (by omega)]
    · rw [if_neg (by simp [ha]; omega), td_pos (by omega), wrap_id (by omega) (by omega)]

/-- A number's decimal text. -/
def txt (n : Int) : ByteArray := ⟨(Lib.itoa n).toArray⟩
theorem l1Num_is (n : Int) (h1 : -1000000000000000000 < n) (h2 : n < 1000000000000000000) : spec_l1Num.f n = some (txt n) := by unfold spec_l1Num.f; rw [if_pos ⟨h1, h2⟩]; rfl
theorem itoa_is (n : Int) (h1 : -1000000000000000000 < n) (h2 : n < 1000000000000000000) : strconv_Itoa.f n = some (txt n) := by unfold strconv_Itoa.f; rw [if_pos ⟨by omega, by omega⟩]; rfl
theorem txt_le (n : Int) (h1 : -1000000000000000000 < n) (h2 : n < 1000000000000000000) : (txt n).size ≤ 21 := by
  have := Lib.itoa_length_le n (by omega) (by omega)
  show (Lib.itoa n).toArray.size ≤ 21
  simpa using this

theorem txt_neg (d : Int) (h : d < 0) : txt d = (⟨#[45]⟩ : ByteArray) ++ txt (-d) := by
  have e1 : Lib.itoa d = 45 :: Lib.decDigits d.natAbs := by unfold Lib.itoa; rw [if_pos h]
  have e2 : Lib.itoa (-d) = Lib.decDigits d.natAbs := by unfold Lib.itoa; rw [if_neg (by omega)]; congr 1; omega
  apply ByteArray.ext
  show (Lib.itoa d).toArray = _
  rw [e1, ByteArray.data_append]
  show _ = #[45] ++ (Lib.itoa (-d)).toArray
  rw [e2]; simp
theorem txt_size (u : Nat) : (txt (u : Int)).size = Lib.nDigits u := by
  have e : Lib.itoa (u : Int) = Lib.decDigits u := by unfold Lib.itoa; rw [if_neg (by omega)]; simp
  show (Lib.itoa (u : Int)).toArray.size = _
  rw [e]; simp [Lib.decDigits_length]
theorem txt_pos (n : Int) (h1 : -1000000000000000000 < n) (h2 : n < 1000000000000000000) : 1 ≤ (txt n).size := by
  rcases Int.lt_or_le n 0 with h | h
  · rw [txt_neg n h, ByteArray.size_append]; show 1 ≤ 1 + _; omega
  · obtain ⟨u, rfl⟩ : ∃ u : Nat, n = u := ⟨n.toNat, by omega⟩
    rw [txt_size]; exact Lib.nDigits_pos u
theorem ba_assoc (a b c : ByteArray) : a ++ b ++ c = a ++ (b ++ c) := ByteArray.append_assoc
theorem ba_ext {a b : ByteArray} (h : a.data.toList = b.data.toList) : a = b := ByteArray.ext (Array.toList_inj.1 h)

/-- So many noughts. -/
def zeros (q : Nat) : ByteArray := strOfNums (List.replicate q 48)
theorem zeros_size (q : Nat) : (zeros q).size = q := by unfold zeros strOfNums; show ((List.replicate q (48 : Int)).map _).toArray.size = q; simp
theorem zeros_add (a b : Nat) : zeros (a + b) = zeros a ++ zeros b := by
  apply ba_ext
  unfold zeros strOfNums
  rw [ByteArray.data_append]
  simp [List.replicate_append_replicate]
theorem nought_l0 (q : Nat) (hq : q ≤ 100000) : ∀ (d k i : Nat), i + d = q → d < k → spec_l1Nought.l0 k (List.replicate i 48 ++ List.replicate d 0) (q : Int) (i : Int) = some (zeros q) := by
  intro d
  induction d with
  | zero =>
    intro k i h hk
    obtain ⟨k, rfl⟩ : ∃ m, k = m + 1 := ⟨k - 1, by omega⟩
    obtain rfl : i = q := by omega
    simp only [spec_l1Nought.l0]
    rw [if_neg (by omega)]
    simp [zeros]
  | succ d ih =>
    intro k i h hk
    obtain ⟨k, rfl⟩ : ∃ m, k = m + 1 := ⟨k - 1, by omega⟩
    simp only [spec_l1Nought.l0]
    rw [if_pos (by omega), if_pos (by omega), if_pos (by simp; omega), wrap_id (by omega) (by omega)]
    have e : (List.replicate i (48 : Int) ++ List.replicate (d + 1) 0).set ((i : Int)).toNat 48 = List.replicate (i + 1) 48 ++ List.replicate d 0 := by
      rw [Int.toNat_natCast, List.set_append, if_neg (by simp)]
      simp only [List.length_replicate, Nat.sub_self, List.replicate_succ, List.set_cons_zero]
      rw [show (48 : Int) :: List.replicate i 48 = List.replicate i 48 ++ [48] from by rw [← List.replicate_succ, List.replicate_succ'], List.append_assoc]; rfl
    rw [e, show ((i : Int) + 1) = ((i + 1 : Nat) : Int) from by omega]
    exact ih k (i + 1) (by omega) (by omega)
theorem nought_is (q : Nat) (hq : q ≤ 100000) (k : Nat) (hk : q < k) : spec_l1Nought.f k (q : Int) = some (zeros q) := by
  unfold spec_l1Nought.f
  rw [if_pos (by omega), Int.toNat_natCast, if_pos (by omega)]
  simp only [Option.bind_some]
  have := nought_l0 q hq q k 0 (by omega) hk
  simpa using this

/-- A number in at least m digits. -/
def pad (n : Int) (m : Nat) : ByteArray := zeros (m - (txt n).size) ++ txt n
theorem zeros_none : zeros 0 = ByteArray.empty := rfl
theorem e_app (x : ByteArray) : (⟨#[]⟩ : ByteArray) ++ x = x := ByteArray.empty_append
theorem specDigits_is (n : Int) (m : Nat) (h1 : -1000000000 < n) (h2 : n < 1000000000) (hm : m ≤ 10) (k : Nat) (hk : 20 ≤ k) : spec_l2Digits.f k n m = some (pad n m) := by
  have lt := txt_le n (by omega) (by omega)
  unfold spec_l2Digits.f pad
  rw [l1Num_is n (by omega) (by omega)]
  simp only [Option.bind_some]
  by_cases h : (txt n).size < m
  · rw [if_pos (by omega), wrap_id (by omega) (by omega), show ((m : Int) - ((txt n).size : Int)) = ((m - (txt n).size : Nat) : Int) from by omega, nought_is _ (by omega) k (by omega)]
    simp only [Option.bind_some]
    rw [if_pos (by rw [zeros_size]; omega)]
  · rw [if_neg (by omega), show m - (txt n).size = 0 from by omega, zeros_none, ByteArray.empty_append]
theorem year_l0 : ∀ (d k : Nat) (x y : ByteArray), 4 - y.size = d → d < k → x.size ≤ 10 → y.size ≤ 30 → impl_yearText.l0 k x y = some (x ++ (zeros d ++ y)) := by
  intro d
  induction d with
  | zero =>
    intro k x y h hk hx hy
    obtain ⟨k, rfl⟩ : ∃ m, k = m + 1 := ⟨k - 1, by omega⟩
    simp only [impl_yearText.l0]
    rw [if_neg (by omega), if_pos (by omega), zeros_none, ByteArray.empty_append]
  | succ d ih =>
    intro k x y h hk hx hy
    obtain ⟨k, rfl⟩ : ∃ m, k = m + 1 := ⟨k - 1, by omega⟩
    have z1 : (⟨#[48]⟩ : ByteArray).size = 1 := rfl
    simp only [impl_yearText.l0]
    rw [if_pos (by omega), if_pos (by omega), ih k x _ (by rw [ByteArray.size_append, z1]; omega) (by omega) hx (by rw [ByteArray.size_append, z1]; omega)]
    rw [zeros_add d 1, ba_assoc]; rfl
theorem pad_le (n : Int) (m : Nat) (h1 : -1000000000 < n) (h2 : n < 1000000000) (hm : m ≤ 10) : (pad n m).size ≤ 40 := by
  have lt := txt_le n (by omega) (by omega)
  unfold pad; rw [ByteArray.size_append, zeros_size]; omega
theorem year_is (y : Int) (h1 : -5000 ≤ y) (h2 : y ≤ 9999) (k : Nat) (hk : 10 ≤ k) : impl_yearText.f k y = some (if y < 0 then (⟨#[45]⟩ : ByteArray) ++ pad (-y) 4 else pad y 4) := by
  obtain ⟨k, rfl⟩ : ∃ m, k = m + 1 := ⟨k - 1, by omega⟩
  unfold impl_yearText.f pad
  by_cases h : y < 0
  · have lt := txt_le (-y) (by omega) (by omega)
    rw [if_pos h, if_pos h, wrap_id (by omega) (by omega)]
    simp only [impl_yearText.j0]
    rw [itoa_is (-y) (by omega) (by omega)]
    simp only [Option.bind_some]
    rw [year_l0 _ k _ _ rfl (by omega) (by decide) (by omega)]
  · have lt := txt_le y (by omega) (by omega)
    rw [if_neg h, if_neg h]
    simp only [impl_yearText.j0]
    rw [itoa_is y (by omega) (by omega)]
    simp only [Option.bind_some]
    rw [year_l0 _ k _ _ rfl (by omega) (by decide) (by omega), e_app]
theorem two_is (n : Int) (h1 : 1 ≤ n) (h2 : n ≤ 99) : impl_twoDigits.f n = some (pad n 2) := by
  obtain ⟨u, rfl⟩ : ∃ u : Nat, n = u := ⟨n.toNat, by omega⟩
  have hs := txt_size u
  unfold impl_twoDigits.f pad
  rw [itoa_is (u : Int) (by omega) (by omega)]
  simp only [Option.bind_some]
  by_cases h : (u : Int) < 10
  · rw [Lib.nDigits_small (by omega)] at hs
    rw [if_pos h, if_pos (by omega), hs]; rfl
  · rw [Lib.nDigits_big (by omega), Lib.nDigits_small (by omega)] at hs
    rw [if_neg h, hs]
    show _ = some (zeros 0 ++ _)
    rw [zeros_none, ByteArray.empty_append]
def dateB (y m d : Int) : Bool := decide (-5000 ≤ y ∧ y ≤ 9999 ∧ 1 ≤ m ∧ m ≤ 12 ∧ 1 ≤ d ∧ d ≤ 31)
/-- A date's text. -/
def dateTxt (y m d : Int) : ByteArray := if dateB y m d then (if y < 0 then (⟨#[45]⟩ : ByteArray) ++ pad (-y) 4 else pad y 4) ++ (⟨#[45]⟩ : ByteArray) ++ pad m 2 ++ (⟨#[45]⟩ : ByteArray) ++ pad d 2 else ⟨#[]⟩
theorem implDateText_is (y m d : Int) (k : Nat) (hk : 30 ≤ k) : impl_DateText.f k y m d = some (dateTxt y m d) := by
  obtain ⟨k, rfl⟩ : ∃ m, k = m + 1 := ⟨k - 1, by omega⟩
  have z1 : (⟨#[45]⟩ : ByteArray).size = 1 := rfl
  unfold impl_DateText.f dateTxt dateB
  by_cases c1 : y < -5000
  · rw [if_pos c1, decide_eq_false (p := -5000 ≤ y ∧ y ≤ 9999 ∧ 1 ≤ m ∧ m ≤ 12 ∧ 1 ≤ d ∧ d ≤ 31) (by omega)]; simp [impl_DateText.j0]
  rw [if_neg c1]
  by_cases c2 : y > 9999
  · rw [if_pos c2, decide_eq_false (p := -5000 ≤ y ∧ y ≤ 9999 ∧ 1 ≤ m ∧ m ≤ 12 ∧ 1 ≤ d ∧ d ≤ 31) (by omega)]; simp [impl_DateText.j0]
  rw [if_neg c2]
  by_cases c3 : m < 1
  · rw [if_pos c3, decide_eq_false (p := -5000 ≤ y ∧ y ≤ 9999 ∧ 1 ≤ m ∧ m ≤ 12 ∧ 1 ≤ d ∧ d ≤ 31) (by omega)]; simp [impl_DateText.j0]
  rw [if_neg c3]
  by_cases c4 : m > 12
  · rw [if_pos c4, decide_eq_false (p := -5000 ≤ y ∧ y ≤ 9999 ∧ 1 ≤ m ∧ m ≤ 12 ∧ 1 ≤ d ∧ d ≤ 31) (by omega)]; simp [impl_DateText.j0]
  rw [if_neg c4]
  by_cases c5 : d < 1
  · rw [if_pos c5, decide_eq_false (p := -5000 ≤ y ∧ y ≤ 9999 ∧ 1 ≤ m ∧ m ≤ 12 ∧ 1 ≤ d ∧ d ≤ 31) (by omega)]; simp [impl_DateText.j0]
  rw [if_neg c5]
  by_cases c6 : d > 31
  · rw [decide_eq_true c6, decide_eq_false (p := -5000 ≤ y ∧ y ≤ 9999 ∧ 1 ≤ m ∧ m ≤ 12 ∧ 1 ≤ d ∧ d ≤ 31) (by omega)]; simp [impl_DateText.j0]
  rw [decide_eq_false c6, decide_eq_true (p := -5000 ≤ y ∧ y ≤ 9999 ∧ 1 ≤ m ∧ m ≤ 12 ∧ 1 ≤ d ∧ d ≤ 31) (by omega)]
  have p1 := pad_le m 2 (by omega) (by omega) (by omega)
  have p2 := pad_le d 2 (by omega) (by omega) (by omega)
  have p3 := pad_le y 4 (by omega) (by omega) (by omega)
  have p4 := pad_le (-y) 4 (by omega) (by omega) (by omega)
  simp only [impl_DateText.j0, Bool.false_eq_true, if_false, if_true]
  rw [year_is y (by omega) (by omega) k (by omega), two_is m (by omega) (by omega), two_is d (by omega) (by omega)]
  by_cases hy : y < 0
  · simp only [hy, if_true, Option.bind_some, ByteArray.size_append, z1]
    rw [if_pos (by omega), if_pos (by omega), if_pos (by omega), if_pos (by omega)]
  · simp only [hy, if_false, Option.bind_some, ByteArray.size_append, z1]
    rw [if_pos (by omega), if_pos (by omega), if_pos (by omega), if_pos (by omega)]
theorem specDateText_is (y m d : Int) (k : Nat) (hk : 30 ≤ k) : spec_DateText.f k y m d = some (dateTxt y m d) := by
  obtain ⟨k, rfl⟩ : ∃ m, k = m + 1 := ⟨k - 1, by omega⟩
  have z1 : (⟨#[45]⟩ : ByteArray).size = 1 := rfl
  unfold spec_DateText.f spec_l2Year.f dateTxt dateB
  by_cases c1 : y ≥ -5000
  case neg => rw [if_neg c1, decide_eq_false (p := -5000 ≤ y ∧ y ≤ 9999 ∧ 1 ≤ m ∧ m ≤ 12 ∧ 1 ≤ d ∧ d ≤ 31) (by omega)]; simp [spec_DateText.j0]
  rw [if_pos c1]
  by_cases c2 : y ≤ 9999
  case neg => rw [decide_eq_false c2, decide_eq_false (p := -5000 ≤ y ∧ y ≤ 9999 ∧ 1 ≤ m ∧ m ≤ 12 ∧ 1 ≤ d ∧ d ≤ 31) (by omega)]; simp [spec_DateText.j0]
  rw [decide_eq_true c2]
  simp only [Option.bind_some, if_true]
  by_cases c3 : m < 1
  · rw [if_pos c3, decide_eq_false (p := -5000 ≤ y ∧ y ≤ 9999 ∧ 1 ≤ m ∧ m ≤ 12 ∧ 1 ≤ d ∧ d ≤ 31) (by omega)]; simp [spec_DateText.j0]
  rw [if_neg c3]
  by_cases c4 : m > 12
  · rw [if_pos c4, decide_eq_false (p := -5000 ≤ y ∧ y ≤ 9999 ∧ 1 ≤ m ∧ m ≤ 12 ∧ 1 ≤ d ∧ d ≤ 31) (by omega)]; simp [spec_DateText.j0]
  rw [if_neg c4]
  by_cases c5 : d < 1
  · rw [if_pos c5, decide_eq_false (p := -5000 ≤ y ∧ y ≤ 9999 ∧ 1 ≤ m ∧ m ≤ 12 ∧ 1 ≤ d ∧ d ≤ 31) (by omega)]; simp [spec_DateText.j0]
  rw [if_neg c5]
  by_cases c6 : d > 31
  · rw [decide_eq_true c6, decide_eq_false (p := -5000 ≤ y ∧ y ≤ 9999 ∧ 1 ≤ m ∧ m ≤ 12 ∧ 1 ≤ d ∧ d ≤ 31) (by omega)]; simp [spec_DateText.j0]
  rw [decide_eq_false c6, decide_eq_true (p := -5000 ≤ y ∧ y ≤ 9999 ∧ 1 ≤ m ∧ m ≤ 12 ∧ 1 ≤ d ∧ d ≤ 31) (by omega)]
  have p1 := pad_le m 2 (by omega) (by omega) (by omega)
  have p2 := pad_le d 2 (by omega) (by omega) (by omega)
  have p3 := pad_le y 4 (by omega) (by omega) (by omega)
  have p4 := pad_le (-y) 4 (by omega) (by omega) (by omega)
  have s1 := specDigits_is y 4 (by omega) (by omega) (by omega) k (by omega)
  have s2 := specDigits_is (-y) 4 (by omega) (by omega) (by omega) k (by omega)
  have s3 := specDigits_is m 2 (by omega) (by omega) (by omega) k (by omega)
  have s4 := specDigits_is d 2 (by omega) (by omega) (by omega) k (by omega)
  simp only [spec_DateText.j0, Bool.false_eq_true, if_false, if_true]
  rw [wrap_id (x := -y) (by omega) (by omega), show (4 : Int) = ((4 : Nat) : Int) from rfl, show (2 : Int) = ((2 : Nat) : Int) from rfl, s1, s2, s3, s4]
  by_cases hy : y < 0
  · simp only [hy, if_true, Option.bind_some, ByteArray.size_append, z1]
    rw [if_pos (by omega), if_pos (by omega), if_pos (by omega), if_pos (by omega), if_pos (by omega)]
  · simp only [hy, if_false, Option.bind_some, ByteArray.size_append, z1]
    rw [if_pos (by omega), if_pos (by omega), if_pos (by omega), if_pos (by omega)]
theorem FnExactDateText : ∀ (a0_0 : Int) (a0_1 : Int) (a0_2 : Int), (Lit.int .i64 a0_0).wf = true → (Lit.int .i64 a0_1).wf = true → (Lit.int .i64 a0_2).wf = true → ∃ k, laws_FnExactDateText.f k a0_0 a0_1 a0_2 = some true := by
  intro y m d _ _ _
  refine ⟨40, ?_⟩
  unfold laws_FnExactDateText.f laws_toDate.f
  simp only [Option.bind_some, specDateText_is y m d 40 (by omega), implDateText_is y m d 40 (by omega), if_true]

end Go.Proofs.YtjemnnndifeagaaDoor.Pure
