/- The plain law of FnDays: what the program computes is what the reference computes, for every input (no further condition). -/
import Derived.Test.YtffamggcjijobaaDoorMFnDaysa14
import Derived.Test.YtffamggcjijobaaDoorRFnDays
namespace Go.Proofs.YtffamggcjijobaaDoor.Pure
open Go.RowKit Go.Proofs.YtffamggcjijobaaDoor.PFnDays Go.Proofs.YtffamggcjijobaaDoorW.PrintWords Go.Proofs.YtffamggcjijobaaDoorW.PrintLast

set_option linter.unusedVariables false
set_option linter.unusedSimpArgs false
/-! plain facts on whole numbers -/
theorem wrap_id {x : Int} (h1 : -9223372036854775808 ≤ x) (h2 : x ≤ 9223372036854775807) : wrap64 x = x := by
  unfold wrap64; omega
theorem td_pos {a b : Int} (h : 0 ≤ a) : a.tdiv b = a / b := Int.tdiv_eq_ediv_of_nonneg h
theorem td_neg {a b : Int} (h : a ≤ 0) : a.tdiv b = -((-a) / b) := by
  rw [← Int.tdiv_eq_ediv_of_nonneg (by omega : 0 ≤ -a), Int.neg_tdiv]; omega
theorem tm_pos {a b : Int} (h : 0 ≤ a) : a.tmod b = a % b := Int.tmod_eq_emod_of_nonneg h
theorem tm_neg {a b : Int} (h : a ≤ 0) : a.tmod b = -((-a) % b) := by
  rw [← Int.tmod_eq_emod_of_nonneg (by omega : 0 ≤ -a), Int.neg_tmod]; omega
theorem tm_zero (a b : Int) : a.tmod b = 0 ↔ a % b = 0 := by
  rw [← Int.dvd_iff_tmod_eq_zero, ← Int.dvd_iff_emod_eq_zero]
theorem ediv_is {a b q r : Int} (hb : 0 < b) (h : a = b * q + r) (h0 : 0 ≤ r) (h1 : r < b) : a / b = q := by
  rw [h, Int.add_comm, Int.add_mul_ediv_left _ _ (by omega), Int.ediv_eq_zero_of_lt h0 h1]; omega
theorem ediv_neg_of {a b : Int} (hb : 0 < b) (h : a.tmod b = 0) : a.tdiv b = a / b := by
  have e := Int.mul_tdiv_add_tmod a b
  rw [h] at e
  exact (ediv_is hb (q := a.tdiv b) (r := 0) (by omega) (by omega) hb).symm
theorem ediv_floor {a b : Int} (hb : 0 < b) (ha : a < 0) (h : a.tmod b ≠ 0) : a.tdiv b - 1 = a / b := by
  have e := Int.mul_tdiv_add_tmod a b
  have hm := tm_neg (a := a) (b := b) (by omega)
  have h0 := Int.emod_nonneg (-a) (by omega : b ≠ 0)
  have h1 := Int.emod_lt_of_pos (-a) hb
  refine (ediv_is hb (q := a.tdiv b - 1) (r := a.tmod b + b) ?_ (by omega) (by omega)).symm
  rw [Int.mul_sub]; omega
/-- The floor, as both programs reckon it. -/
theorem floor_is {a b : Int} (hb : 0 < b) (h1 : -4611686018427387904 ≤ a) (h2 : a ≤ 4611686018427387904) :
    (if b = 0 then (none) else (if (Int.tmod a b) = 0 then (some (wrap64 (Int.tdiv a b))) else (if ((decide (a < 0)) != (decide (b < 0))) = true then (some (wrap64 ((wrap64 (Int.tdiv a b)) - 1))) else (some (wrap64 (Int.tdiv a b)))))) = some (a / b) := by
  have hle : a / b ≤ 4611686018427387904 := by
    by_cases h : 0 ≤ a
    · exact Int.le_trans (Int.ediv_le_self b h) h2
    · have := Int.ediv_neg_of_neg_of_pos (by omega : a < 0) hb; omega
  have hge : -4611686018427387904 ≤ a / b := by
    by_cases h : 0 ≤ a
    · have := Int.ediv_nonneg h (by omega : 0 ≤ b); omega
    · exact Int.le_ediv_of_mul_le hb (by have : -4611686018427387904 * b ≤ -4611686018427387904 * 1 := by omega
                                         omega)
  rw [if_neg (by omega : ¬ b = 0)]
  by_cases hm : Int.tmod a b = 0
  · rw [if_pos hm, ediv_neg_of hb hm, wrap_id (by omega) (by omega)]
  · rw [if_neg hm]
    by_cases ha : a < 0
    · have e := ediv_floor hb ha hm
      rw [if_pos (by simp [ha]; omega), wrap_id (x := Int.tdiv a b) (by omega) (by omega), e, wrap_id (by omega) (by omega)]
    · rw [if_neg (by simp [ha]; omega), td_pos (by omega), wrap_id (by omega) (by omega)]
/-! plain facts on texts as lists of numbers -/
theorem u8_back (b : UInt8) : UInt8.ofNat ((b.toNat : Int)).toNat = b := by simp
theorem strOfNums_bytesOf (s : ByteArray) : strOfNums (bytesOf s) = s := by
  cases s with | mk d =>
  unfold strOfNums bytesOf
  congr 1
  rw [List.map_map]
  have : ((fun n : Int => UInt8.ofNat n.toNat) ∘ fun b : UInt8 => (b.toNat : Int)) = id := by funext b; exact u8_back b
  rw [this, List.map_id]
def okL (xs : List Int) : Prop := ∀ x ∈ xs, 0 ≤ x ∧ x < 256
theorem bytesOf_strOfNums (xs : List Int) (h : okL xs) : bytesOf (strOfNums xs) = xs := by
  unfold bytesOf
  rw [strOfNums_data, List.map_map]
  conv => rhs; rw [← List.map_id xs]
  refine List.map_congr_left fun x hx => ?_
  have := h x hx
  simp only [Function.comp, UInt8.toNat_ofNat', id]
  omega
theorem okL_bytesOf (s : ByteArray) : okL (bytesOf s) := by
  intro x hx
  obtain ⟨b, _, rfl⟩ := List.mem_map.1 hx
  have := b.toNat_lt
  omega
theorem strOfNums_app (xs ys : List Int) : strOfNums xs ++ strOfNums ys = strOfNums (xs ++ ys) := by
  apply ByteArray.ext
  rw [ByteArray.data_append]
  simp [strOfNums]
theorem bytesOf_inj {s t : ByteArray} (h : bytesOf s = bytesOf t) : s = t := by
  rw [← strOfNums_bytesOf s, ← strOfNums_bytesOf t, h]
theorem toList_iff (s t : ByteArray) : s.toList = t.toList ↔ bytesOf s = bytesOf t := by
  rw [ByteArray.toList_eq, ByteArray.toList_eq]
  constructor
  · intro h; unfold bytesOf; rw [h]
  · intro h; rw [bytesOf_inj h]
theorem bt_of (s : ByteArray) (L : List Int) (h : bytesOf s = L) (i : Int) : bt s i = rd L i := by
  rw [← h, rd_bytesOf]
theorem size_of' (s : ByteArray) (L : List Int) (h : bytesOf s = L) : s.size = L.length := by
  rw [← h, bytesOf_length]
/-- A number's decimal text. -/
def txt (n : Int) : ByteArray := ⟨(Lib.itoa n).toArray⟩
theorem itoa_is (n : Int) (h1 : -1000000000000000000 < n) (h2 : n < 1000000000000000000) : strconv_Itoa.f n = some (txt n) := by unfold strconv_Itoa.f; rw [if_pos ⟨by omega, by omega⟩]; rfl
theorem txt_le (n : Int) (h1 : -1000000000000000000 < n) (h2 : n < 1000000000000000000) : (txt n).size ≤ 21 := by
  have := Lib.itoa_length_le n (by omega) (by omega)
  show (Lib.itoa n).toArray.size ≤ 21
  simpa using this
theorem txt_neg (d : Int) (h : d < 0) : txt d = (⟨#[45]⟩ : ByteArray) ++ txt (-d) := by
  have e1 : Lib.itoa d = 45 :: Lib.decDigits d.natAbs := by unfold Lib.itoa; rw [if_pos h]
  have e2 : Lib.itoa (-d) = Lib.decDigits d.natAbs := by unfold Lib.itoa; rw [if_neg (by omega)]; congr 1; omega
  apply ByteArray.ext
  show (Lib.itoa d).toArray = _
  rw [e1, ByteArray.data_append]
  show _ = #[45] ++ (Lib.itoa (-d)).toArray
  rw [e2]; simp
theorem txt_size (u : Nat) : (txt (u : Int)).size = Lib.nDigits u := by
  have e : Lib.itoa (u : Int) = Lib.decDigits u := by unfold Lib.itoa; rw [if_neg (by omega)]; simp
  show (Lib.itoa (u : Int)).toArray.size = _
  rw [e]; simp [Lib.decDigits_length]
theorem txt_pos (n : Int) (h1 : -1000000000000000000 < n) (h2 : n < 1000000000000000000) : 1 ≤ (txt n).size := by
  rcases Int.lt_or_le n 0 with h | h
  · rw [txt_neg n h, ByteArray.size_append]; show 1 ≤ 1 + _; omega
  · obtain ⟨u, rfl⟩ : ∃ u : Nat, n = u := ⟨n.toNat, by omega⟩
    rw [txt_size]; exact Lib.nDigits_pos u
theorem ba_assoc (a b c : ByteArray) : a ++ b ++ c = a ++ (b ++ c) := ByteArray.append_assoc
theorem ba_ext {a b : ByteArray} (h : a.data.toList = b.data.toList) : a = b := ByteArray.ext (Array.toList_inj.1 h)
/-- So many noughts. -/
def zeros (q : Nat) : ByteArray := strOfNums (List.replicate q 48)
theorem zeros_size (q : Nat) : (zeros q).size = q := by unfold zeros strOfNums; show ((List.replicate q (48 : Int)).map _).toArray.size = q; simp
theorem zeros_add (a b : Nat) : zeros (a + b) = zeros a ++ zeros b := by
  apply ba_ext
  unfold zeros strOfNums
  rw [ByteArray.data_append]
  simp [List.replicate_append_replicate]
/-- A number in at least m digits. -/
def pad (n : Int) (m : Nat) : ByteArray := zeros (m - (txt n).size) ++ txt n
theorem zeros_none : zeros 0 = ByteArray.empty := rfl
theorem e_app (x : ByteArray) : (⟨#[]⟩ : ByteArray) ++ x = x := ByteArray.empty_append
theorem year_l0 : ∀ (d k : Nat) (x y : ByteArray), 4 - y.size = d → d < k → x.size ≤ 10 → y.size ≤ 30 → impl_yearText.l0 k x y = some (x ++ (zeros d ++ y)) := by
  intro d
  induction d with
  | zero =>
    intro k x y h hk hx hy
    obtain ⟨k, rfl⟩ : ∃ m, k = m + 1 := ⟨k - 1, by omega⟩
    simp only [impl_yearText.l0]
    rw [if_neg (by omega), if_pos (by omega), zeros_none, ByteArray.empty_append]
  | succ d ih =>
    intro k x y h hk hx hy
    obtain ⟨k, rfl⟩ : ∃ m, k = m + 1 := ⟨k - 1, by omega⟩
    have z1 : (⟨#[48]⟩ : ByteArray).size = 1 := rfl
    simp only [impl_yearText.l0]
    rw [if_pos (by omega), if_pos (by omega), ih k x _ (by rw [ByteArray.size_append, z1]; omega) (by omega) hx (by rw [ByteArray.size_append, z1]; omega)]
    rw [zeros_add d 1, ba_assoc]; rfl
theorem pad_le (n : Int) (m : Nat) (h1 : -1000000000 < n) (h2 : n < 1000000000) (hm : m ≤ 10) : (pad n m).size ≤ 40 := by
  have lt := txt_le n (by omega) (by omega)
  unfold pad; rw [ByteArray.size_append, zeros_size]; omega
theorem year_is (y : Int) (h1 : -5000 ≤ y) (h2 : y ≤ 9999) (k : Nat) (hk : 10 ≤ k) : impl_yearText.f k y = some (if y < 0 then (⟨#[45]⟩ : ByteArray) ++ pad (-y) 4 else pad y 4) := by
  obtain ⟨k, rfl⟩ : ∃ m, k = m + 1 := ⟨k - 1, by omega⟩
  unfold impl_yearText.f pad
  by_cases h : y < 0
  · have lt := txt_le (-y) (by omega) (by omega)
    rw [if_pos h, if_pos h, wrap_id (by omega) (by omega)]
    simp only [impl_yearText.j0]
    rw [itoa_is (-y) (by omega) (by omega)]
    simp only [Option.bind_some]
    rw [year_l0 _ k _ _ rfl (by omega) (by decide) (by omega)]
  · have lt := txt_le y (by omega) (by omega)
    rw [if_neg h, if_neg h]
    simp only [impl_yearText.j0]
    rw [itoa_is y (by omega) (by omega)]
    simp only [Option.bind_some]
    rw [year_l0 _ k _ _ rfl (by omega) (by decide) (by omega), e_app]
theorem two_is (n : Int) (h1 : 1 ≤ n) (h2 : n ≤ 99) : impl_twoDigits.f n = some (pad n 2) := by
  obtain ⟨u, rfl⟩ : ∃ u : Nat, n = u := ⟨n.toNat, by omega⟩
  have hs := txt_size u
  unfold impl_twoDigits.f pad
  rw [itoa_is (u : Int) (by omega) (by omega)]
  simp only [Option.bind_some]
  by_cases h : (u : Int) < 10
  · rw [Lib.nDigits_small (by omega)] at hs
    rw [if_pos h, if_pos (by omega), hs]; rfl
  · rw [Lib.nDigits_big (by omega), Lib.nDigits_small (by omega)] at hs
    rw [if_neg h, hs]
    show _ = some (zeros 0 ++ _)
    rw [zeros_none, ByteArray.empty_append]
def dateB (y m d : Int) : Bool := decide (-5000 ≤ y ∧ y ≤ 9999 ∧ 1 ≤ m ∧ m ≤ 12 ∧ 1 ≤ d ∧ d ≤ 31)
/-- A date's text. -/
def dateTxt (y m d : Int) : ByteArray := if dateB y m d then (if y < 0 then (⟨#[45]⟩ : ByteArray) ++ pad (-y) 4 else pad y 4) ++ (⟨#[45]⟩ : ByteArray) ++ pad m 2 ++ (⟨#[45]⟩ : ByteArray) ++ pad d 2 else ⟨#[]⟩
theorem implDateText_is (y m d : Int) (k : Nat) (hk : 30 ≤ k) : impl_DateText.f k y m d = some (dateTxt y m d) := by
  obtain ⟨k, rfl⟩ : ∃ m, k = m + 1 := ⟨k - 1, by omega⟩
  have z1 : (⟨#[45]⟩ : ByteArray).size = 1 := rfl
  unfold impl_DateText.f dateTxt dateB
  by_cases c1 : y < -5000
  · rw [if_pos c1, decide_eq_false (p := -5000 ≤ y ∧ y ≤ 9999 ∧ 1 ≤ m ∧ m ≤ 12 ∧ 1 ≤ d ∧ d ≤ 31) (by omega)]; simp [impl_DateText.j0]
  rw [if_neg c1]
  by_cases c2 : y > 9999
  · rw [if_pos c2, decide_eq_false (p := -5000 ≤ y ∧ y ≤ 9999 ∧ 1 ≤ m ∧ m ≤ 12 ∧ 1 ≤ d ∧ d ≤ 31) (by omega)]; simp [impl_DateText.j0]
  rw [if_neg c2]
  by_cases c3 : m < 1
  · rw [if_pos c3, decide_eq_false (p := -5000 ≤ y ∧ y ≤ 9999 ∧ 1 ≤ m ∧ m ≤ 12 ∧ 1 ≤ d ∧ d ≤ 31) (by omega)]; simp [impl_DateText.j0]
  rw [if_neg c3]
  by_cases c4 : m > 12
  · rw [if_pos c4, decide_eq_false (p := -5000 ≤ y ∧ y ≤ 9999 ∧ 1 ≤ m ∧ m ≤ 12 ∧ 1 ≤ d ∧ d ≤ 31) (by omega)]; simp [impl_DateText.j0]
  rw [if_neg c4]
  by_cases c5 : d < 1
  · rw [if_pos c5, decide_eq_false (p := -5000 ≤ y ∧ y ≤ 9999 ∧ 1 ≤ m ∧ m ≤ 12 ∧ 1 ≤ d ∧ d ≤ 31) (by omega)]; simp [impl_DateText.j0]
  rw [if_neg c5]
  by_cases c6 : d > 31
  · rw [decide_eq_true c6, decide_eq_false (p := -5000 ≤ y ∧ y ≤ 9999 ∧ 1 ≤ m ∧ m ≤ 12 ∧ 1 ≤ d ∧ d ≤ 31) (by omega)]; simp [impl_DateText.j0]
  rw [decide_eq_false c6, decide_eq_true (p := -5000 ≤ y ∧ y ≤ 9999 ∧ 1 ≤ m ∧ m ≤ 12 ∧ 1 ≤ d ∧ d ≤ 31) (by omega)]
  have p1 := pad_le m 2 (by omega) (by omega) (by omega)
  have p2 := pad_le d 2 (by omega) (by omega) (by omega)
  have p3 := pad_le y 4 (by omega) (by omega) (by omega)
  have p4 := pad_le (-y) 4 (by omega) (by omega) (by omega)
  simp only [impl_DateText.j0, Bool.false_eq_true, if_false, if_true]
  rw [year_is y (by omega) (by omega) k (by omega), two_is m (by omega) (by omega), two_is d (by omega) (by omega)]
  by_cases hy : y < 0
  · simp only [hy, if_true, Option.bind_some, ByteArray.size_append, z1]
    rw [if_pos (by omega), if_pos (by omega), if_pos (by omega), if_pos (by omega)]
  · simp only [hy, if_false, Option.bind_some, ByteArray.size_append, z1]
    rw [if_pos (by omega), if_pos (by omega), if_pos (by omega), if_pos (by omega)]
def leapB (c y : Int) : Bool := decide (Int.tmod y 4 = 0 ∧ (c = 2 ∨ ¬ Int.tmod y 100 = 0 ∨ Int.tmod y 400 = 0))
def goodYearB (c y : Int) : Bool := decide ((c = 1 ∨ c = 2) ∧ -5000 ≤ y ∧ y ≤ 9999)
theorem implLeap_is (c y : Int) : impl_leap.f c y = some (leapB c y) := by
  unfold impl_leap.f leapB
  by_cases h4 : Int.tmod y 4 = 0
  · by_cases h2 : c = 2
    · simp [h4, h2]
    · by_cases h100 : Int.tmod y 100 = 0
      · simp [h4, h2, h100]; rw [Bool.eq_iff_iff]; simp
      · simp [h4, h2, h100]
  · simp [h4]
theorem implGoodYear_is (c y : Int) : impl_goodYear.f c y = some (goodYearB c y) := by
  unfold impl_goodYear.f goodYearB
  by_cases h1 : c = 1
  · by_cases h3 : -5000 ≤ y <;> simp [h1, h3]
  · by_cases h2 : c = 2
    · by_cases h3 : -5000 ≤ y <;> simp [h2, h3]
    · simp [h1, h2]
theorem l2Mod_is (a b : Int) (hb : 0 < b) (hb2 : b ≤ 1000) (h1 : -1000000000 ≤ a) (h2 : a ≤ 1000000000) : spec_l2Mod.f a b = some (a % b) := by
  unfold spec_l2Mod.f spec_l2Floor.f
  rw [floor_is hb (by omega) (by omega)]
  simp only [Option.bind_some]
  have e := Int.mul_ediv_add_emod a b
  have h0 := Int.emod_nonneg a (by omega : b ≠ 0)
  have h1 := Int.emod_lt_of_pos a hb
  rw [wrap_id (x := b * (a / b)) (by omega) (by omega), wrap_id (by omega) (by omega)]
  congr 1; omega
theorem specLeap_is (c y : Int) (h1 : -1000000000 ≤ y) (h2 : y ≤ 1000000000) : spec_l2Leap.f c y = some (leapB c y) := by
  unfold spec_l2Leap.f leapB
  rw [l2Mod_is y 4 (by omega) (by omega) h1 h2, l2Mod_is y 100 (by omega) (by omega) h1 h2, l2Mod_is y 400 (by omega) (by omega) h1 h2]
  simp only [Option.bind_some, tm_zero]
  have b4 : ((y % 4) == 0) = decide (y % 4 = 0) := by rw [Bool.eq_iff_iff]; simp
  have b400 : ((y % 400) == 0) = decide (y % 400 = 0) := by rw [Bool.eq_iff_iff]; simp
  rw [b4, b400]
  by_cases hc : c = 2
  · simp [hc]
  · by_cases h4 : y % 4 = 0
    · by_cases h100 : y % 100 = 0
      · simp [hc, h4, h100]
      · simp [hc, h4, h100]
    · have : ¬ y % 400 = 0 := by omega
      simp [hc, h4, this]
def sumM (L : Bool) : Nat → Int
  | 0 => 0
  | 1 => 0
  | n + 2 => sumM L (n + 1) + mdV ((n + 1 : Nat) : Int) L
theorem sumM_succ (L : Bool) (n : Nat) (h : 1 ≤ n) : sumM L (n + 1) = sumM L n + mdV (n : Int) L := by
  obtain ⟨n, rfl⟩ : ∃ j, n = j + 1 := ⟨n - 1, by omega⟩
  rfl
theorem ml_le (m : Int) : 28 ≤ ml m ∧ ml m ≤ 31 := by unfold ml; split <;> (try split) <;> omega
theorem mdV_le (m : Int) (L : Bool) : 28 ≤ mdV m L ∧ mdV m L ≤ 31 := by
  unfold mdV; split
  · rename_i h; unfold ml; rw [if_pos h.1]; omega
  · exact ml_le m
theorem sumM_le (L : Bool) : ∀ n : Nat, 0 ≤ sumM L n ∧ sumM L n ≤ 31 * n
  | 0 => by simp [sumM]
  | 1 => by simp [sumM]
  | n + 2 => by
    have := sumM_le L (n + 1); have := mdV_le ((n + 1 : Nat) : Int) L
    simp only [sumM]; omega
/-- How many days lie ahead of a year's first one, from the year 0 on. -/
def ysV (c y : Int) : Int := if c = 1 then 365 * y + (y + 3) / 4 - (y + 99) / 100 + (y + 399) / 400 else 365 * y + (y + 3) / 4
theorem floorDiv_is (a b : Int) (hb : 0 < b) (h1 : -4611686018427387904 ≤ a) (h2 : a ≤ 4611686018427387904) : impl_floorDiv_int.f a b = some (a / b) := by
  unfold impl_floorDiv_int.f; exact floor_is hb h1 h2
theorem yearStart_is (c y : Int) (h1 : -100000 ≤ y) (h2 : y ≤ 100000) : impl_yearStart.f c y = some (ysV c y) := by
  unfold impl_yearStart.f ysV
  rw [wrap_id (x := 365 * y) (by omega) (by omega), wrap_id (x := y + 3) (by omega) (by omega), floorDiv_is (y + 3) 4 (by omega) (by omega) (by omega)]
  simp only [Option.bind_some]
  rw [wrap_id (x := y + 99) (by omega) (by omega), floorDiv_is (y + 99) 100 (by omega) (by omega) (by omega)]
  simp only [Option.bind_some]
  rw [wrap_id (x := y + 399) (by omega) (by omega), floorDiv_is (y + 399) 400 (by omega) (by omega) (by omega)]
  simp only [Option.bind_some]
  rw [wrap_id (x := 365 * y + (y + 3) / 4) (by omega) (by omega), wrap_id (x := -((y + 99) / 100)) (by omega) (by omega), wrap_id (x := -((y + 99) / 100) + (y + 399) / 400) (by omega) (by omega), wrap_id (x := 365 * y + (y + 3) / 4 + (-((y + 99) / 100) + (y + 399) / 400)) (by omega) (by omega)]
  split <;> (congr 1; try omega)
theorem rd_months (m : Int) (h1 : 1 ≤ m) (h2 : m ≤ 12) : rd [31, 28, 31, 30, 31, 30, 31, 31, 30, 31, 30, 31] (m - 1) = ml m := by
  rcases (by omega : m = 1 ∨ m = 2 ∨ m = 3 ∨ m = 4 ∨ m = 5 ∨ m = 6 ∨ m = 7 ∨ m = 8 ∨ m = 9 ∨ m = 10 ∨ m = 11 ∨ m = 12) with rfl | rfl | rfl | rfl | rfl | rfl | rfl | rfl | rfl | rfl | rfl | rfl <;> rfl
theorem specMonthDays1_is (c y m : Int) (h1 : -1000000000 ≤ y) (h2 : y ≤ 1000000000) (m1 : 1 ≤ m) (m2 : m ≤ 12) : spec_l2MonthDays.f c y m = some (mdV m (leapB c y)) := by
  unfold spec_l2MonthDays.f mdV
  have hm := ml_le m
  simp only [Option.bind_some]
  rw [wrap_id (x := m - 1) (by omega) (by omega), if_pos (by omega), if_pos (by simp; omega), specLeap_is c y h1 h2, rd_months m m1 m2]
  simp only [Option.bind_some]
  rw [wrap_id (x := ml m + 1) (by omega) (by omega)]
  by_cases e : m = 2
  · cases leapB c y <;> simp [e]
  · simp [e]
theorem specCal_is (c : Int) : spec_l2Cal.f c = some (decide (c = 1 ∨ c = 2)) := by
  unfold spec_l2Cal.f
  by_cases c1 : c = 1
  · simp [c1]
  · by_cases c2 : c = 2 <;> simp [c1, c2]
theorem specYear_is (y : Int) : spec_l2Year.f y = some (decide (-5000 ≤ y ∧ y ≤ 9999)) := by
  unfold spec_l2Year.f
  by_cases h1 : -5000 ≤ y <;> simp [h1]
/-- The day from which each calendar counts. -/
def bdV (c : Int) : Int := if c = 1 then 730485 else 730487
/-- What isDate says. -/
def isDateB (c y m d : Int) : Bool := decide (1 ≤ m ∧ m ≤ 12 ∧ 1 ≤ d) && (goodYearB c y && decide (d ≤ mdV m (leapB c y)))
def dcV (c y m d : Int) : Int := ysV c y + d - 1 + sumM (leapB c y) m.toNat
/-- What DayOf tells. -/
def dayOfV (c y m d : Int) : Int × Bool :=
  if isDateB c y m d = true ∧ -1000000 ≤ dcV c y m d - bdV c ∧ dcV c y m d - bdV c ≤ 1000000 then (dcV c y m d - bdV c, true) else (0, false)
theorem isDate_facts {c y m d : Int} (h : isDateB c y m d = true) : (c = 1 ∨ c = 2) ∧ -5000 ≤ y ∧ y ≤ 9999 ∧ 1 ≤ m ∧ m ≤ 12 ∧ 1 ≤ d ∧ d ≤ 31 := by
  unfold isDateB goodYearB at h
  simp only [Bool.and_eq_true, decide_eq_true_eq] at h
  have := mdV_le m (leapB c y)
  omega
theorem implMD (c y m : Int) (m1 : 1 ≤ m) (m2 : m ≤ 12) : impl_monthDays.f c y m = some (mdV m (leapB c y)) := by
  unfold impl_monthDays.f; rw [if_pos ⟨m1, m2⟩, implLeap_is]; rfl
theorem specDay_is (n : Int) : spec_l2Day.f n = some (decide (-1000000 ≤ n ∧ n ≤ 1000000)) := by
  unfold spec_l2Day.f
  by_cases h1 : -1000000 ≤ n <;> simp [h1]
theorem isDay_is (n : Int) : impl_isDay.f n = some (decide (-1000000 ≤ n ∧ n ≤ 1000000)) := by
  unfold impl_isDay.f
  by_cases h1 : -1000000 ≤ n <;> simp [h1]
theorem isDate_is (c y m d : Int) : impl_isDate.f c y m d = some (isDateB c y m d) := by
  unfold impl_isDate.f isDateB
  rw [implGoodYear_is]
  simp only [Option.bind_some]
  by_cases h1 : 1 ≤ m
  · by_cases h2 : m ≤ 12
    · by_cases h3 : 1 ≤ d
      · rw [if_pos h1, if_pos h2, if_pos h3, decide_eq_true (by omega : 1 ≤ m ∧ m ≤ 12 ∧ 1 ≤ d), implMD c y m h1 h2]
        cases goodYearB c y <;> simp
      · rw [if_pos h1, if_pos h2, if_neg h3, decide_eq_false (by omega)]; rfl
    · rw [if_pos h1, if_neg h2, decide_eq_false (by omega)]; rfl
  · rw [if_neg h1, decide_eq_false (by omega)]; rfl
theorem dayCount_l0 (c y m d : Int) (hm1 : 1 ≤ m) (hm2 : m ≤ 12) : ∀ (t k j : Nat) (n : Int), 1 ≤ j → (m - j : Int) = t → t < k → -1000000000 ≤ n → n + 31 * t ≤ 1000000000 →
    impl_dayCount.l0 k c n (j : Int) y m d = some (n + (sumM (leapB c y) m.toNat - sumM (leapB c y) j)) := by
  intro t
  induction t with
  | zero =>
    intro k j n hj ht hk h1 h2
    obtain ⟨k, rfl⟩ : ∃ q, k = q + 1 := ⟨k - 1, by omega⟩
    have e : m.toNat = j := by omega
    simp only [impl_dayCount.l0]
    rw [if_neg (by omega), e]
    congr 1; omega
  | succ t ih =>
    intro k j n hj ht hk h1 h2
    obtain ⟨k, rfl⟩ : ∃ q, k = q + 1 := ⟨k - 1, by omega⟩
    have hmd := mdV_le (j : Int) (leapB c y)
    have hs := sumM_succ (leapB c y) j hj
    simp only [impl_dayCount.l0]
    rw [if_pos (by omega), implMD c y j (by omega) (by omega)]
    simp only [Option.bind_some]
    rw [wrap_id (x := n + mdV (j : Int) (leapB c y)) (by omega) (by omega), wrap_id (x := (j : Int) + 1) (by omega) (by omega), show ((j : Int) + 1) = ((j + 1 : Nat) : Int) from by omega, ih k (j + 1) _ (by omega) (by omega) (by omega) (by omega) (by omega)]
    congr 1; omega
theorem dayCount_is (c y m d : Int) (k : Nat) (hk : 14 ≤ k) (hy1 : -5000 ≤ y) (hy2 : y ≤ 9999) (hm1 : 1 ≤ m) (hm2 : m ≤ 12) (hd1 : 1 ≤ d) (hd2 : d ≤ 31) : impl_dayCount.f k c y m d = some (dcV c y m d) := by
  have hyb : -40000000 ≤ ysV c y ∧ ysV c y ≤ 40000000 := by unfold ysV; split <;> omega
  unfold impl_dayCount.f dcV
  rw [yearStart_is c y (by omega) (by omega)]
  simp only [Option.bind_some]
  rw [wrap_id (x := ysV c y + d) (by omega) (by omega), wrap_id (x := ysV c y + d - 1) (by omega) (by omega)]
  have := dayCount_l0 c y m d hm1 hm2 (m - 1).toNat k 1 (ysV c y + d - 1) (by omega) (by omega) (by omega) (by omega) (by omega)
  rw [show ((1 : Nat) : Int) = 1 from rfl] at this
  rw [this]
  congr 1
  simp only [sumM]; omega
theorem baseDay_is (c : Int) (k : Nat) (hk : 14 ≤ k) : impl_baseDay.f k c = some (bdV c) := by
  unfold impl_baseDay.f bdV
  by_cases h : c = 1
  · rw [if_pos h, if_pos h, yearStart_is 1 2000 (by omega) (by omega)]; rfl
  · rw [if_neg h, if_neg h, dayCount_is 2 1999 12 19 k hk (by omega) (by omega) (by omega) (by omega) (by omega) (by omega)]
    have e1 : dcV 2 1999 12 19 = 730487 := by decide +kernel
    rw [e1]; rfl
theorem implDayOf_is (c y m d : Int) (k : Nat) (hk : 14 ≤ k) : impl_DayOf.f k c y m d = some (dayOfV c y m d) := by
  unfold impl_DayOf.f dayOfV
  rw [isDate_is]
  simp only [Option.bind_some]
  cases hg : isDateB c y m d
  · simp
  · obtain ⟨f1, f2, f3, f4, f5, f6, f7⟩ := isDate_facts hg
    have hbnd : -100000000 ≤ dcV c y m d ∧ dcV c y m d ≤ 100000000 := by
      unfold dcV ysV; have := sumM_le (leapB c y) m.toNat; split <;> omega
    have hbb : 730485 ≤ bdV c ∧ bdV c ≤ 730487 := by unfold bdV; split <;> omega
    rw [if_pos rfl, dayCount_is c y m d k hk f2 f3 f4 f5 f6 f7, baseDay_is c k hk]
    simp only [Option.bind_some]
    rw [wrap_id (x := dcV c y m d - bdV c) (by omega) (by omega), isDay_is]
    simp only [Option.bind_some, decide_eq_true_eq, true_and]
    split <;> rfl
theorem specFloor_is (a b : Int) (hb : 0 < b) (h1 : -4611686018427387904 ≤ a) (h2 : a ≤ 4611686018427387904) : spec_l2Floor.f a b = some (a / b) := by
  unfold spec_l2Floor.f; exact floor_is hb h1 h2
/-- The reference's days to a year are the program's, counted from another day. -/
theorem specDays_is (c y : Int) (hc : c = 1 ∨ c = 2) (h1 : -100000 ≤ y) (h2 : y ≤ 100000) : spec_l2Days.f c y = some (ysV c y - bdV c - if c = 2 then 13 else 0) := by
  unfold spec_l2Days.f ysV bdV
  rw [wrap_id (x := y - 1) (by omega) (by omega), specFloor_is (y - 1) 4 (by omega) (by omega) (by omega)]
  simp only [Option.bind_some]
  rw [specFloor_is (y - 1) 100 (by omega) (by omega) (by omega)]
  simp only [Option.bind_some]
  rw [specFloor_is (y - 1) 400 (by omega) (by omega) (by omega)]
  simp only [Option.bind_some]
  rw [wrap_id (x := y - 2000) (by omega) (by omega), wrap_id (x := (y - 2000) * 365) (by omega) (by omega), wrap_id (x := -((y - 1) / 100)) (by omega) (by omega), wrap_id (x := -((y - 1) / 100) + (y - 1) / 400) (by omega) (by omega), wrap_id (x := (y - 1) / 4 + (-((y - 1) / 100) + (y - 1) / 400)) (by omega) (by omega)]
  rw [wrap_id (x := (y - 2000) * 365 + ((y - 1) / 4 + (-((y - 1) / 100) + (y - 1) / 400))) (by omega) (by omega), wrap_id (x := (y - 2000) * 365 + ((y - 1) / 4 + (-((y - 1) / 100) + (y - 1) / 400)) - 484) (by omega) (by omega), wrap_id (x := (y - 2000) * 365 + (y - 1) / 4) (by omega) (by omega), wrap_id (x := (y - 2000) * 365 + (y - 1) / 4 - 499) (by omega) (by omega)]
  rcases hc with rfl | rfl
  · rw [if_pos rfl, if_pos rfl, if_pos rfl, if_neg (by omega)]; congr 1; omega
  · rw [if_neg (by omega), if_neg (by omega), if_neg (by omega), if_pos rfl]; congr 1; omega
theorem specDayOf_l0 (c y m d : Int) (hc : c = 1 ∨ c = 2) (hy1 : -5000 ≤ y) (hy2 : y ≤ 9999) (hm1 : 1 ≤ m) (hm2 : m ≤ 12) : ∀ (t k j : Nat) (n : Int), 1 ≤ j → (m - j : Int) = t → t < k → -1000000000 ≤ n → n + 31 * t ≤ 1000000000 →
    spec_l2DayOf.l0 k c n (j : Int) y m d = some (n + (sumM (leapB c y) m.toNat - sumM (leapB c y) j) + (if c = 2 then 13 else 0), true) := by
  intro t
  induction t with
  | zero =>
    intro k j n hj ht hk h1 h2
    obtain ⟨k, rfl⟩ : ∃ q, k = q + 1 := ⟨k - 1, by omega⟩
    have e : m.toNat = j := by omega
    simp only [spec_l2DayOf.l0]
    rw [if_neg (by omega), wrap_id (x := n + 13) (by omega) (by omega), e]
    rcases hc with rfl | rfl
    · rw [if_neg (by omega), if_neg (by omega)]; congr 2; omega
    · rw [if_pos rfl, if_pos rfl]; congr 2; omega
  | succ t ih =>
    intro k j n hj ht hk h1 h2
    obtain ⟨k, rfl⟩ : ∃ q, k = q + 1 := ⟨k - 1, by omega⟩
    have hmd := mdV_le (j : Int) (leapB c y)
    have hs := sumM_succ (leapB c y) j hj
    simp only [spec_l2DayOf.l0]
    rw [if_pos (by omega), specMonthDays1_is c y j (by omega) (by omega) (by omega) (by omega)]
    simp only [Option.bind_some]
    rw [wrap_id (x := n + mdV (j : Int) (leapB c y)) (by omega) (by omega), wrap_id (x := (j : Int) + 1) (by omega) (by omega), show ((j : Int) + 1) = ((j + 1 : Nat) : Int) from by omega, ih k (j + 1) _ (by omega) (by omega) (by omega) (by omega) (by omega)]
    congr 2; omega
theorem specL2DayOf_is (c y m d : Int) (k : Nat) : spec_l2DayOf.f (k + 14) c y m d = some (if isDateB c y m d = true then (dcV c y m d - bdV c, true) else (0, false)) := by
  have jt : spec_l2DayOf.j0 (k + 14) c true y m d = some (0, false) := by
    show spec_l2DayOf.j0 (k + 13 + 1) c true y m d = _
    simp only [spec_l2DayOf.j0, if_true]
  unfold spec_l2DayOf.f
  simp only [specCal_is, specYear_is, Option.bind_some, decide_eq_true_eq]
  by_cases hc : c = 1 ∨ c = 2
  · by_cases hy : -5000 ≤ y ∧ y ≤ 9999
    · have hg : goodYearB c y = true := decide_eq_true ⟨hc, hy⟩
      by_cases m1 : m < 1
      · have e0 : isDateB c y m d = false := by unfold isDateB; rw [decide_eq_false (by omega)]; rfl
        rw [if_pos hc, if_pos hy, if_pos m1, jt, e0]; rfl
      by_cases m2 : m > 12
      · have e0 : isDateB c y m d = false := by unfold isDateB; rw [decide_eq_false (by omega)]; rfl
        rw [if_pos hc, if_pos hy, if_neg m1, if_pos m2, jt, e0]; rfl
      by_cases d1 : d < 1
      · have e0 : isDateB c y m d = false := by unfold isDateB; rw [decide_eq_false (by omega)]; rfl
        rw [if_pos hc, if_pos hy, if_neg m1, if_neg m2, if_pos d1, jt, e0]; rfl
      rw [if_pos hc, if_pos hy, if_neg m1, if_neg m2, if_neg d1, specMonthDays1_is c y m (by omega) (by omega) (by omega) (by omega)]
      simp only [Option.bind_some]
      by_cases d2 : d > mdV m (leapB c y)
      · have e0 : isDateB c y m d = false := by unfold isDateB; rw [decide_eq_false (by omega : ¬ d ≤ mdV m (leapB c y))]; simp
        rw [decide_eq_true d2, jt, e0]; rfl
      · have e0 : isDateB c y m d = true := by unfold isDateB; rw [decide_eq_true (by omega : 1 ≤ m ∧ m ≤ 12 ∧ 1 ≤ d), hg, decide_eq_true (by omega : d ≤ mdV m (leapB c y))]; rfl
        have hmd := mdV_le m (leapB c y)
        have hyb : -40000000 ≤ ysV c y ∧ ysV c y ≤ 40000000 := by unfold ysV; split <;> omega
        have hbb : 730485 ≤ bdV c ∧ bdV c ≤ 730487 := by unfold bdV; split <;> omega
        rw [decide_eq_false d2, e0, if_pos rfl]
        show spec_l2DayOf.j0 (k + 13 + 1) c false y m d = _
        simp only [spec_l2DayOf.j0, specDays_is c y hc (by omega) (by omega), Option.bind_some, Bool.false_eq_true, if_false]
        have hq : (0 : Int) ≤ (if c = 2 then 13 else 0) ∧ (if c = 2 then (13 : Int) else 0) ≤ 13 := by split <;> omega
        generalize hqq : (if c = 2 then (13 : Int) else 0) = q at hq ⊢
        rw [wrap_id (x := ysV c y - bdV c - q + d) (by omega) (by omega), wrap_id (x := ysV c y - bdV c - q + d - 1) (by omega) (by omega)]
        have := specDayOf_l0 c y m d hc hy.1 hy.2 (by omega) (by omega) (m - 1).toNat (k + 13) 1 (ysV c y - bdV c - q + d - 1) (by omega) (by omega) (by omega) (by omega) (by omega)
        rw [hqq] at this
        rw [show ((1 : Nat) : Int) = 1 from rfl] at this
        rw [this]
        unfold dcV
        congr 2
        show _ = _
        simp only [sumM]; omega
    · have eg : goodYearB c y = false := decide_eq_false (fun h => hy h.2)
      have e0 : isDateB c y m d = false := by unfold isDateB; rw [eg]; simp
      rw [if_pos hc, if_neg hy, jt, e0]; rfl
  · have eg : goodYearB c y = false := decide_eq_false (fun h => hc h.1)
    have e0 : isDateB c y m d = false := by unfold isDateB; rw [eg]; simp
    rw [if_neg hc, jt, e0]; rfl
/-! numbers read out of texts -/
/-- The digits' number; -1 where there are others, or none, or more than six. -/
def l2go (acc : Int) : List Int → Int
  | [] => acc
  | d :: r => if 48 ≤ d ∧ d ≤ 57 then l2go (acc * 10 + (d - 48)) r else -1
def l2L (L : List Int) : Int := if L.length < 1 then -1 else if L.length > 6 then -1 else l2go 0 L
def p10 : Nat → Int
  | 0 => 1
  | n + 1 => p10 n * 10
theorem p10_le : ∀ i : Nat, i ≤ 6 → 1 ≤ p10 i ∧ p10 i ≤ 1000000 := by
  intro i h
  rcases (by omega : i = 0 ∨ i = 1 ∨ i = 2 ∨ i = 3 ∨ i = 4 ∨ i = 5 ∨ i = 6) with rfl | rfl | rfl | rfl | rfl | rfl | rfl <;> decide
theorem at_bt (s : ByteArray) (i : Nat) (h : i < (bytesOf s).length) : (bytesOf s)[i] = bt s (i : Int) := by
  have := rd_bytesOf s (i : Int)
  unfold rd at this
  rw [Int.toNat_natCast, List.getD_eq_getElem?_getD, List.getElem?_eq_getElem h] at this
  exact this
theorem bytes_ext (s : ByteArray) (i j : Nat) : bytesOf (s.extract i j) = ((bytesOf s).drop i).take (j - i) := by
  unfold bytesOf
  rw [ByteArray.data_extract, Array.toList_extract, List.extract, List.map_take, List.map_drop]
def txtL (r : Int) : List Int := bytesOf (txt r)
theorem bytes_app (x y : ByteArray) : bytesOf (x ++ y) = bytesOf x ++ bytesOf y := by
  unfold bytesOf; rw [ByteArray.data_append]; simp
theorem txtL_nat (u : Nat) : txtL (u : Int) = (Lib.decDigits u).map fun b => (b.toNat : Int) := by
  have e : Lib.itoa (u : Int) = Lib.decDigits u := by unfold Lib.itoa; rw [if_neg (by omega)]; simp
  unfold txtL bytesOf txt; rw [e]
theorem txtL_digit (u : Nat) : ∀ x ∈ txtL (u : Int), 48 ≤ x ∧ x ≤ 57 := by
  intro x hx
  rw [txtL_nat, Lib.decDigits_eq, List.map_map] at hx
  obtain ⟨t, _, rfl⟩ := List.mem_map.1 hx
  simp only [Function.comp, Lib.dg, UInt8.toNat_ofNat']
  omega
theorem toNat_dig (d : Nat) (h : d ≤ 9) : ((UInt8.ofNat (48 + d)).toNat : Int) = 48 + d := by
  rw [UInt8.toNat_ofNat']; omega
theorem l2_txt (r : Int) (h1 : 1 ≤ r) (h2 : r ≤ 1000) : l2L (txtL r) = r := by
  obtain ⟨u, rfl⟩ : ∃ u : Nat, r = u := ⟨r.toNat, by omega⟩
  rw [txtL_nat]
  have st : ∀ (acc : Int) (d : Nat) (l : List Int), d ≤ 9 → l2go acc ((48 + (d : Int)) :: l) = l2go (acc * 10 + d) l := by
    intro acc d l hd
    show (if 48 ≤ 48 + (d : Int) ∧ 48 + (d : Int) ≤ 57 then l2go (acc * 10 + (48 + (d : Int) - 48)) l else -1) = _
    rw [if_pos (by omega), show (48 + (d : Int) - 48) = d from by omega]
  by_cases a : u < 10
  · rw [Lib.decDigits, dif_pos a]
    simp only [List.map_cons, List.map_nil, toNat_dig u (by omega)]
    show l2go 0 [48 + (u : Int)] = _
    rw [st 0 u [] (by omega)]; show (0 : Int) * 10 + u = u; omega
  · rw [Lib.decDigits, dif_neg a]
    by_cases b : u < 100
    · rw [Lib.decDigits, dif_pos (by omega)]
      simp only [List.map_append, List.map_cons, List.map_nil, toNat_dig (u / 10) (by omega), toNat_dig (u % 10) (by omega)]
      show l2go 0 [48 + ((u / 10 : Nat) : Int), 48 + ((u % 10 : Nat) : Int)] = _
      rw [st 0 _ _ (by omega), st _ _ _ (by omega)]; show ((0 : Int) * 10 + (u / 10 : Nat)) * 10 + (u % 10 : Nat) = u; omega
    · rw [Lib.decDigits, dif_neg (by omega)]
      by_cases c : u < 1000
      · rw [Lib.decDigits, dif_pos (by omega)]
        simp only [List.map_append, List.map_cons, List.map_nil, toNat_dig (u / 10 / 10) (by omega), toNat_dig (u / 10 % 10) (by omega), toNat_dig (u % 10) (by omega)]
        show l2go 0 [48 + ((u / 10 / 10 : Nat) : Int), 48 + ((u / 10 % 10 : Nat) : Int), 48 + ((u % 10 : Nat) : Int)] = _
        rw [st 0 _ _ (by omega), st _ _ _ (by omega), st _ _ _ (by omega)]; show (((0 : Int) * 10 + (u / 10 / 10 : Nat)) * 10 + (u / 10 % 10 : Nat)) * 10 + (u % 10 : Nat) = u; omega
      · obtain rfl : u = 1000 := by omega
        rw [Lib.decDigits, dif_neg (by decide), Lib.decDigits, dif_pos (by decide)]
        rfl
theorem decFrom_snoc : ∀ (l : List UInt8) (acc n : Nat) (b : UInt8) (d : Nat), Lib.decFrom acc l = some n → Lib.digitVal b = some d → Lib.decFrom acc (l ++ [b]) = some (n * 10 + d)
  | [], acc, n, b, d, h, hb => by
    simp only [Lib.decFrom, Option.some.injEq] at h
    subst h
    simp [Lib.decFrom, hb]
  | a :: t, acc, n, b, d, h, hb => by
    simp only [Lib.decFrom, List.cons_append] at h ⊢
    cases ha : Lib.digitVal a with
    | none => simp [ha] at h
    | some e => simp only [ha] at h ⊢; exact decFrom_snoc t _ n b d h hb
theorem digitVal_dig (d : Nat) (h : d ≤ 9) : Lib.digitVal (UInt8.ofNat (48 + d)) = some d := by
  have e : (UInt8.ofNat (48 + d)).toNat = 48 + d := by rw [UInt8.toNat_ofNat']; omega
  unfold Lib.digitVal
  rw [e, if_pos (by omega)]; congr 1; omega
theorem decFrom_dec (u : Nat) : Lib.decFrom 0 (Lib.decDigits u) = some u := by
  induction u using Nat.strongRecOn with
  | _ u ih =>
    by_cases h : u < 10
    · rw [Lib.decDigits, dif_pos h]
      simp only [Lib.decFrom]; rw [digitVal_dig u (by omega)]; simp [Lib.decFrom]
    · rw [Lib.decDigits, dif_neg h, decFrom_snoc _ _ _ _ _ (ih (u / 10) (by omega)) (digitVal_dig (u % 10) (by omega))]
      congr 1; omega
/-! Reading a date: either takes a text alone that is the text of the date read, and reads every date's text as that date. -/
def isD (x : Int) : Bool := decide (48 ≤ x ∧ x ≤ 57)
def padL (n : Int) (m : Nat) : List Int := bytesOf (pad n m)
theorem bytes_zeros (q : Nat) : bytesOf (zeros q) = List.replicate q 48 := by
  unfold zeros
  rw [bytesOf_strOfNums]
  intro x hx
  obtain ⟨_, rfl⟩ := List.mem_replicate.1 hx
  omega
theorem padL_eq (n : Int) (m : Nat) : padL n m = List.replicate (m - (txt n).size) 48 ++ txtL n := by
  unfold padL pad txtL; rw [bytes_app, bytes_zeros]
theorem nDig9 (u : Nat) (h : u ≤ 9999) : Lib.nDigits u ≤ 4 := by
  by_cases a : u < 10
  · rw [Lib.nDigits_small a]; omega
  · rw [Lib.nDigits_big a]
    by_cases b : u / 10 < 10
    · rw [Lib.nDigits_small b]; omega
    · rw [Lib.nDigits_big b]
      by_cases c : u / 10 / 10 < 10
      · rw [Lib.nDigits_small c]; omega
      · rw [Lib.nDigits_big c, Lib.nDigits_small (by omega)]; omega
theorem nDig2 (u : Nat) (h : u ≤ 99) : Lib.nDigits u ≤ 2 := by
  by_cases a : u < 10
  · rw [Lib.nDigits_small a]; omega
  · rw [Lib.nDigits_big a, Lib.nDigits_small (by omega)]; omega
theorem padL_len (u m : Nat) (h : Lib.nDigits u ≤ m) : (padL (u : Int) m).length = m := by
  unfold padL
  rw [bytesOf_length]
  unfold pad
  rw [ByteArray.size_append, zeros_size, txt_size]; omega
theorem padL_D (u m : Nat) : ∀ x ∈ padL (u : Int) m, isD x = true := by
  intro x hx
  rw [padL_eq] at hx
  rcases List.mem_append.1 hx with h | h
  · obtain ⟨_, rfl⟩ := List.mem_replicate.1 h; rfl
  · exact decide_eq_true (txtL_digit u x h)
theorem l2go_snoc : ∀ (l : List Int) (acc d : Int), (∀ x ∈ l, isD x = true) → 0 ≤ d → d ≤ 9 → l2go acc (l ++ [48 + d]) = l2go acc l * 10 + d
  | [], acc, d, _, h1, h2 => by
    show (if 48 ≤ 48 + d ∧ 48 + d ≤ 57 then acc * 10 + (48 + d - 48) else -1) = acc * 10 + d
    rw [if_pos (by omega)]; omega
  | x :: l, acc, d, hl, h1, h2 => by
    have hx := of_decide_eq_true (hl x (by simp))
    show (if 48 ≤ x ∧ x ≤ 57 then l2go (acc * 10 + (x - 48)) (l ++ [48 + d]) else -1) = (if 48 ≤ x ∧ x ≤ 57 then l2go (acc * 10 + (x - 48)) l else -1) * 10 + d
    rw [if_pos hx, if_pos hx]
    exact l2go_snoc l _ d (fun y hy => hl y (by simp [hy])) h1 h2
theorem l2go_txt (u : Nat) : l2go 0 (txtL (u : Int)) = u := by
  induction u using Nat.strongRecOn with
  | _ u ih =>
    by_cases h : u < 10
    · rw [txtL_nat, Lib.decDigits, dif_pos h]
      simp only [List.map_cons, List.map_nil, toNat_dig u (by omega)]
      show (if (48 : Int) ≤ 48 + (u : Int) ∧ 48 + (u : Int) ≤ 57 then (0 : Int) * 10 + (48 + (u : Int) - 48) else -1) = _
      rw [if_pos (by omega)]; omega
    · have e : txtL (u : Int) = txtL ((u / 10 : Nat) : Int) ++ [48 + ((u % 10 : Nat) : Int)] := by
        rw [txtL_nat, txtL_nat, Lib.decDigits, dif_neg h, List.map_append]
        simp only [List.map_cons, List.map_nil, toNat_dig (u % 10) (by omega)]
      rw [e, l2go_snoc _ _ _ (fun x hx => decide_eq_true (txtL_digit (u / 10) x hx)) (by omega) (by omega), ih (u / 10) (by omega)]
      omega
theorem l2go_rep : ∀ (q : Nat) (l : List Int), l2go 0 (List.replicate q 48 ++ l) = l2go 0 l
  | 0, l => rfl
  | q + 1, l => by
    show (if (48 : Int) ≤ 48 ∧ (48 : Int) ≤ 57 then l2go (0 * 10 + (48 - 48)) (List.replicate q 48 ++ l) else -1) = _
    rw [if_pos (by omega)]
    exact l2go_rep q l
theorem l2go_pad (u m : Nat) : l2go 0 (padL (u : Int) m) = u := by rw [padL_eq, l2go_rep, l2go_txt]
theorem l2L_pad (u m : Nat) (h : Lib.nDigits u ≤ m) (h1 : 1 ≤ m) (h2 : m ≤ 6) : l2L (padL (u : Int) m) = u := by
  unfold l2L
  rw [padL_len u m h, if_neg (by omega), if_neg (by omega), l2go_pad]
/-! the library's number -/
theorem decFrom_go : ∀ (l : List UInt8) (acc : Nat), (∀ b ∈ l, isD (b.toNat : Int) = true) → ∃ n : Nat, Lib.decFrom acc l = some n ∧ (n : Int) = l2go (acc : Int) (l.map fun b => (b.toNat : Int))
  | [], acc, _ => ⟨acc, rfl, rfl⟩
  | b :: t, acc, h => by
    have hb := of_decide_eq_true (h b (by simp))
    obtain ⟨d, hd, hd9⟩ : ∃ d : Nat, b.toNat = 48 + d ∧ d ≤ 9 := ⟨b.toNat - 48, by omega, by omega⟩
    obtain ⟨n, h1, h2⟩ := decFrom_go t (acc * 10 + d) (fun y hy => h y (by simp [hy]))
    have hv : Lib.digitVal b = some d := by
      unfold Lib.digitVal
      rw [hd, if_pos (by omega)]; congr 1; omega
    refine ⟨n, ?_, ?_⟩
    · show (match Lib.digitVal b with | some d => Lib.decFrom (acc * 10 + d) t | none => none) = _
      rw [hv]; exact h1
    · rw [h2, List.map_cons]
      show _ = if 48 ≤ (b.toNat : Int) ∧ (b.toNat : Int) ≤ 57 then l2go ((acc : Int) * 10 + ((b.toNat : Int) - 48)) _ else -1
      rw [if_pos hb, hd]
      congr 1; omega
theorem atoi_D (y : ByteArray) (L : List Int) (hy : bytesOf y = L) (hD : ∀ x ∈ L, isD x = true) (hne : L ≠ []) (hl : L.length ≤ 10) : strconv_Atoi.f y = some (l2go 0 L, none) ∧ Lib.decNat y.data.toList = some (l2go 0 L).toNat ∧ 0 ≤ l2go 0 L := by
  have hz := bytesOf_length y
  rw [hy] at hz
  have hb : ∀ b ∈ y.data.toList, isD (b.toNat : Int) = true := fun b hb => hD _ (by rw [← hy]; exact List.mem_map.2 ⟨b, hb, rfl⟩)
  obtain ⟨n, h1, h2⟩ := decFrom_go y.data.toList 0 hb
  have h2' : (n : Int) = l2go 0 L := by rw [← hy]; exact h2
  have hnl : y.data.toList ≠ [] := by
    intro e; apply hne; rw [← hy]; unfold bytesOf; rw [e]; rfl
  have hdn : Lib.decNat y.data.toList = some n := by
    unfold Lib.decNat
    cases h : y.data.toList with
    | nil => exact absurd h hnl
    | cons b r => rw [h] at h1; simp [h1]
  have hyl : y.data.toList.length ≤ 10 := by
    have := congrArg List.length hy
    unfold bytesOf at this
    rw [List.length_map] at this; omega
  refine ⟨?_, by rw [hdn, ← h2']; rfl, by omega⟩
  unfold strconv_Atoi.f
  rw [if_pos (by omega)]
  unfold atoiV
  rw [Lib.atoiAll_short _ (by omega)]
  have e3 : Lib.atoi y.data.toList = some (n : Int) := by
    cases h : y.data.toList with
    | nil => exact absurd h hnl
    | cons b r =>
      have hb0 := of_decide_eq_true (hb b (by rw [h]; simp))
      have n1 : (b == 45) = false := by
        simp; intro e; subst e; exact absurd hb0 (by decide)
      have n2 : (b == 43) = false := by
        simp; intro e; subst e; exact absurd hb0 (by decide)
      have e3 : Lib.atoi (b :: r) = if b == 45 then (Lib.decNat r).map (fun (m : Nat) => -(m : Int)) else if b == 43 then (Lib.decNat r).map (fun (m : Nat) => (m : Int)) else (Lib.decNat (b :: r)).map (fun (m : Nat) => (m : Int)) := rfl
      rw [n1, n2] at e3
      simp only [Bool.false_eq_true, if_false] at e3
      rw [h] at hdn
      rw [e3, hdn]; rfl
  rw [e3, ← h2']; rfl
theorem atoi_neg (y : ByteArray) (L : List Int) (hy : bytesOf y = 45 :: L) (hD : ∀ x ∈ L, isD x = true) (hne : L ≠ []) (hl : L.length ≤ 10) : strconv_Atoi.f y = some (-(l2go 0 L), none) := by
  obtain ⟨z, hz⟩ : ∃ z, z = strOfNums L := ⟨_, rfl⟩
  have hok : okL L := by
    intro x hx
    have := okL_bytesOf y x (by rw [hy]; simp [hx])
    exact this
  have hzb : bytesOf z = L := by rw [hz]; exact bytesOf_strOfNums L hok
  obtain ⟨_, h1, h0⟩ := atoi_D z L hzb hD hne hl
  have hyz : y.data.toList = 45 :: z.data.toList := by
    have e : y = (⟨#[45]⟩ : ByteArray) ++ z := bytesOf_inj (by rw [hy, bytes_app, hzb]; rfl)
    rw [e, ByteArray.data_append]; simp
  have hzl := bytesOf_length z
  rw [hzb] at hzl
  have hyl := bytesOf_length y
  rw [hy, List.length_cons] at hyl
  unfold strconv_Atoi.f
  rw [if_pos (by omega)]
  unfold atoiV
  have hzl2 : z.data.toList.length ≤ 10 := by
    have := congrArg List.length hzb
    unfold bytesOf at this
    rw [List.length_map] at this; omega
  rw [hyz, Lib.atoiAll_short _ (by simp; omega)]
  have e3 : Lib.atoi (45 :: z.data.toList) = (Lib.decNat z.data.toList).map fun (m : Nat) => -(m : Int) := rfl
  rw [e3, h1]
  show some _ = _
  simp only [Option.map_some, Lib.NumEnd.ofOption]
  rw [show ((l2go 0 L).toNat : Int) = l2go 0 L from by omega]
theorem ext_list (s : ByteArray) (i j : Nat) : bytesOf (s.extract i j) = ((bytesOf s).drop i).take (j - i) := bytes_ext s i j
/-! a date's text, in lists -/
def sgL (y : Int) : List Int := if y < 0 then [45] else []
theorem date_nums {y m d : Int} (h : dateB y m d = true) : -5000 ≤ y ∧ y ≤ 9999 ∧ 1 ≤ m ∧ m ≤ 12 ∧ 1 ≤ d ∧ d ≤ 31 := by unfold dateB at h; exact of_decide_eq_true h
theorem bytes_date (y m d : Int) (h : dateB y m d = true) : ∃ u v w : Nat, (y = if y < 0 then -(u : Int) else u) ∧ m = v ∧ d = w ∧ u ≤ 9999 ∧ v ≤ 12 ∧ w ≤ 31 ∧ bytesOf (dateTxt y m d) = sgL y ++ (padL u 4 ++ 45 :: (padL v 2 ++ 45 :: padL w 2)) := by
  have hb := date_nums h
  obtain ⟨v, rfl⟩ : ∃ u : Nat, m = u := ⟨m.toNat, by omega⟩
  obtain ⟨w, rfl⟩ : ∃ u : Nat, d = u := ⟨d.toNat, by omega⟩
  unfold dateTxt sgL
  rw [if_pos h]
  by_cases hy : y < 0
  · obtain ⟨u, hu⟩ : ∃ u : Nat, -y = u := ⟨(-y).toNat, by omega⟩
    refine ⟨u, v, w, by rw [if_pos hy]; omega, rfl, rfl, by omega, by omega, by omega, ?_⟩
    rw [if_pos hy, if_pos hy, hu]
    simp only [bytes_app, List.append_assoc]
    rfl
  · obtain ⟨u, rfl⟩ : ∃ u : Nat, y = u := ⟨y.toNat, by omega⟩
    refine ⟨u, v, w, by rw [if_neg hy], rfl, rfl, by omega, by omega, by omega, ?_⟩
    rw [if_neg hy, if_neg hy]
    simp only [bytes_app, List.append_assoc]
    rfl
def okD (c : Int) (s : ByteArray) (o : Int × Bool) : Prop := o = (0, false) ∨ ∃ y m d, dateB y m d = true ∧ dateTxt y m d = s ∧ o = dayOfV c y m d
def cmD (c : Int) (s : ByteArray) (o : Int × Bool) : Prop := ∀ y m d, dateB y m d = true → dateTxt y m d = s → o = dayOfV c y m d
theorem txt_eq (t s : ByteArray) : (t.toList = s.toList) ↔ t = s := by
  rw [toList_iff]; exact ⟨bytesOf_inj, fun h => by rw [h]⟩
theorem date_of {y m d : Int} {s : ByteArray} (h : dateTxt y m d = s) (hs : 1 ≤ s.size) : dateB y m d = true := by
  cases hb : dateB y m d
  · exfalso
    unfold dateTxt at h
    rw [hb] at h
    simp only [Bool.false_eq_true, if_false] at h
    rw [← h] at hs
    exact absurd hs (by decide)
  · rfl
theorem sg_le (y : Int) : (sgL y).length ≤ 1 := by unfold sgL; split <;> simp
theorem date_size {y m d : Int} {s : ByteArray} (h : dateB y m d = true) (e : dateTxt y m d = s) : 10 ≤ s.size ∧ s.size ≤ 11 := by
  obtain ⟨u, v, w, _, _, _, hu, hv, hw, hL⟩ := bytes_date y m d h
  rw [e] at hL
  have hz := bytesOf_length s
  rw [hL] at hz
  have := sg_le y
  simp only [List.length_append, List.length_cons, padL_len u 4 (nDig9 u hu), padL_len v 2 (by have := nDig2 v (by omega); omega), padL_len w 2 (by have := nDig2 w (by omega); omega)] at hz
  omega
theorem drop_cons {s : ByteArray} {i : Nat} {x : Int} {R : List Int} (h : (bytesOf s).drop i = x :: R) : i < s.size ∧ bt s (i : Int) = x ∧ (bytesOf s).drop (i + 1) = R := by
  have hl : i < (bytesOf s).length := by
    rcases Nat.lt_or_ge i (bytesOf s).length with h' | h'
    · exact h'
    · rw [List.drop_eq_nil_of_le h'] at h; cases h
  rw [List.drop_eq_getElem_cons hl, at_bt s i hl] at h
  injection h with h1 h2
  rw [bytesOf_length] at hl
  exact ⟨hl, h1, h2⟩
theorem date_parts {y m d : Int} {s : ByteArray} (h : dateB y m d = true) (e : dateTxt y m d = s) : ∃ u v w : Nat, (y = if y < 0 then -(u : Int) else u) ∧ m = v ∧ d = w ∧ u ≤ 9999 ∧ v ≤ 12 ∧ w ≤ 31 ∧
    (bytesOf s).take (s.size - 6) = sgL y ++ padL u 4 ∧ ((bytesOf s).drop (s.size - 5)).take 2 = padL v 2 ∧ (bytesOf s).drop (s.size - 2) = padL w 2 ∧ bt s ((s.size - 3 : Nat) : Int) = 45 ∧ bt s ((s.size - 6 : Nat) : Int) = 45 := by
  obtain ⟨u, v, w, h1, h2, h3, hu, hv, hw, hL⟩ := bytes_date y m d h
  rw [e] at hL
  have hz := bytesOf_length s
  have lu := padL_len u 4 (nDig9 u hu)
  have lv := padL_len v 2 (nDig2 v (by omega))
  have lw := padL_len w 2 (nDig2 w (by omega))
  have hz2 : s.size = (sgL y ++ padL u 4).length + 6 := by
    rw [← hz, hL]
    simp only [List.length_append, List.length_cons, lu, lv, lw]
  have d6 : (bytesOf s).drop (s.size - 6) = 45 :: (padL v 2 ++ 45 :: padL w 2) := by
    rw [hL, ← List.append_assoc, show s.size - 6 = (sgL y ++ padL u 4).length from by omega, List.drop_left]
  have d5 := (drop_cons d6).2.2
  have d3 : (bytesOf s).drop (s.size - 3) = 45 :: padL w 2 := by
    rw [show s.size - 3 = (s.size - 6 + 1) + (padL v 2).length from by omega, ← List.drop_drop, d5, List.drop_left]
  refine ⟨u, v, w, h1, h2, h3, hu, hv, hw, ?_, ?_, ?_, (drop_cons d3).2.1, (drop_cons d6).2.1⟩
  · rw [hL, ← List.append_assoc, show s.size - 6 = (sgL y ++ padL u 4).length from by omega, List.take_left]
  · rw [show s.size - 5 = s.size - 6 + 1 from by omega, d5]
    have h9 : (padL (v : Int) 2 ++ 45 :: padL (w : Int) 2).take (padL (v : Int) 2).length = padL (v : Int) 2 := List.take_left
    rw [lv] at h9; exact h9
  · rw [show s.size - 2 = s.size - 3 + 1 from by omega]; exact (drop_cons d3).2.2
def rdO (c : Int) (s : ByteArray) (y m d : Int) : Int × Bool := if dateTxt y m d = s then dayOfV c y m d else (0, false)
theorem rdO_ok (c : Int) (s : ByteArray) (y m d : Int) (hs : 1 ≤ s.size) : okD c s (rdO c s y m d) := by
  unfold rdO
  by_cases h : dateTxt y m d = s
  · rw [if_pos h]; exact .inr ⟨y, m, d, date_of h hs, h, rfl⟩
  · rw [if_neg h]; exact .inl rfl
theorem rdO_cm (c : Int) (s : ByteArray) (y m d : Int) (h : ∀ y' m' d', dateB y' m' d' = true → dateTxt y' m' d' = s → y = y' ∧ m = m' ∧ d = d') : cmD c s (rdO c s y m d) := by
  intro y' m' d' h1 h2
  obtain ⟨rfl, rfl, rfl⟩ := h y' m' d' h1 h2
  unfold rdO; rw [if_pos h2]
theorem tail_all (s : ByteArray) (i : Nat) (h : i ≤ s.size) : bytesOf (s.extract i s.size) = (bytesOf s).drop i := by
  rw [ext_list]
  exact List.take_of_length_le (by rw [List.length_drop, bytesOf_length]; omega)
theorem bt_head (Y : ByteArray) (x : Int) (R : List Int) (h : bytesOf Y = x :: R) : 0 < Y.size ∧ bt Y 0 = x ∧ (bytesOf Y).drop 1 = R := drop_cons (s := Y) (i := 0) (by simpa using h)
theorem head_of (Y : ByteArray) (h : 0 < Y.size) : ∃ R, bytesOf Y = bt Y 0 :: R := by
  cases hb : bytesOf Y with
  | nil => have := bytesOf_length Y; rw [hb] at this; simp at this; omega
  | cons x R => rw [(bt_head Y x R hb).2.1]; exact ⟨R, rfl⟩
theorem atoi_some (z : ByteArray) (h : z.size ≤ 1000) : ∃ v e, strconv_Atoi.f z = some (v, e) := by
  unfold strconv_Atoi.f
  rw [if_pos (by omega)]
  exact ⟨_, _, rfl⟩
theorem implReadD (c : Int) (s : ByteArray) (K : Nat) (hK : 80 ≤ K) : ∃ o, impl_ReadDate.f K c s = some o ∧ okD c s o ∧ cmD c s o := by
  obtain ⟨k, rfl⟩ : ∃ k, K = k + 1 := ⟨K - 1, by omega⟩
  unfold impl_ReadDate.f
  have hbad : impl_ReadDate.j0 (k + 1) c s (s.size : Int) true = some (0, false) := by simp only [impl_ReadDate.j0, if_true]
  by_cases h10 : s.size < 10
  · rw [if_pos (by omega), hbad]
    exact ⟨_, rfl, .inl rfl, fun y m d h e => by have := date_size h e; omega⟩
  rw [if_neg (by omega)]
  by_cases h11 : s.size > 11
  · rw [decide_eq_true (by omega), hbad]
    exact ⟨_, rfl, .inl rfl, fun y m d h e => by have := date_size h e; omega⟩
  rw [decide_eq_false (by omega)]
  simp only [impl_ReadDate.j0, Bool.false_eq_true, if_false]
  rw [wrap_id (x := (s.size : Int) - 6) (by omega) (by omega), wrap_id (x := (s.size : Int) - 5) (by omega) (by omega), wrap_id (x := (s.size : Int) - 3) (by omega) (by omega), wrap_id (x := (s.size : Int) - 2) (by omega) (by omega), if_pos (by omega), if_pos (by omega)]
  obtain ⟨Y, hY⟩ : ∃ Y, Y = s.extract 0 ((s.size : Int) - 6).toNat := ⟨_, rfl⟩
  obtain ⟨M, hM⟩ : ∃ Y, Y = s.extract ((s.size : Int) - 5).toNat ((s.size : Int) - 3).toNat := ⟨_, rfl⟩
  obtain ⟨D, hD⟩ : ∃ Y, Y = s.extract ((s.size : Int) - 2).toNat s.size := ⟨_, rfl⟩
  have hYb : bytesOf Y = (bytesOf s).take (s.size - 6) := by
    rw [hY, ext_list, List.drop_zero, show ((s.size : Int) - 6).toNat - 0 = s.size - 6 from by omega]
  have hMb : bytesOf M = ((bytesOf s).drop (s.size - 5)).take 2 := by
    rw [hM, ext_list, show ((s.size : Int) - 5).toNat = s.size - 5 from by omega, show ((s.size : Int) - 3).toNat - (s.size - 5) = 2 from by omega]
  have hDb : bytesOf D = (bytesOf s).drop (s.size - 2) := by
    rw [hD, show ((s.size : Int) - 2).toNat = s.size - 2 from by omega, tail_all s _ (by omega)]
  rw [← hY, ← hM, ← hD]
  obtain ⟨yv, ye, h1⟩ := atoi_some Y (by rw [hY, ByteArray.size_extract]; omega)
  obtain ⟨mv, me, h2⟩ := atoi_some M (by rw [hM, ByteArray.size_extract]; omega)
  obtain ⟨dv, de, h3⟩ := atoi_some D (by rw [hD, ByteArray.size_extract]; omega)
  have key : ∀ y m d, dateB y m d = true → dateTxt y m d = s → yv = y ∧ mv = m ∧ dv = d ∧ ye.isNone = true ∧ me.isNone = true ∧ de.isNone = true := by
    intro y m d h e
    obtain ⟨u, v, w, p1, p2, p3, hu, hv, hw, t6, t5, t2, _, _⟩ := date_parts h e
    have lu := padL_len u 4 (nDig9 u hu)
    have lv := padL_len v 2 (nDig2 v (by omega))
    have lw := padL_len w 2 (nDig2 w (by omega))
    have q2 := (atoi_D M (padL v 2) (by rw [hMb, t5]) (padL_D v 2) (by intro h; rw [h] at lv; simp at lv) (by omega)).1
    have q3 := (atoi_D D (padL w 2) (by rw [hDb, t2]) (padL_D w 2) (by intro h; rw [h] at lw; simp at lw) (by omega)).1
    have q1 : strconv_Atoi.f Y = some (y, none) := by
      by_cases hy : y < 0
      · unfold sgL at t6
        rw [if_pos hy] at p1 t6
        rw [atoi_neg Y (padL u 4) (by rw [hYb, t6]; rfl) (padL_D u 4) (by intro h; rw [h] at lu; simp at lu) (by omega), l2go_pad]
        congr 2; omega
      · unfold sgL at t6
        rw [if_neg hy] at p1 t6
        rw [(atoi_D Y (padL u 4) (by rw [hYb, t6]; rfl) (padL_D u 4) (by intro h; rw [h] at lu; simp at lu) (by omega)).1, l2go_pad]
        congr 2; omega
    rw [l2go_pad] at q2 q3
    rw [h1] at q1; rw [h2] at q2; rw [h3] at q3
    simp only [Option.some.injEq, Prod.mk.injEq] at q1 q2 q3
    refine ⟨q1.1, by rw [q2.1, p2], by rw [q3.1, p3], by rw [q1.2]; rfl, by rw [q2.2]; rfl, by rw [q3.2]; rfl⟩
  rw [h1, h2, h3]
  simp only [Option.bind_some]
  rw [if_pos (by omega), if_pos (by omega), if_pos (by omega), if_pos (by omega), if_pos (by omega)]
  by_cases n1 : ye.isNone = true
  case neg => rw [if_neg n1]; exact ⟨_, rfl, .inl rfl, fun y m d h e => absurd (key y m d h e).2.2.2.1 n1⟩
  by_cases n2 : me.isNone = true
  case neg => rw [if_pos n1, if_neg n2]; exact ⟨_, rfl, .inl rfl, fun y m d h e => absurd (key y m d h e).2.2.2.2.1 n2⟩
  by_cases n3 : de.isNone = true
  case neg => rw [if_pos n1, if_pos n2, if_neg n3]; exact ⟨_, rfl, .inl rfl, fun y m d h e => absurd (key y m d h e).2.2.2.2.2 n3⟩
  rw [if_pos n1, if_pos n2, if_pos n3, implDateText_is yv mv dv k (by omega)]
  simp only [Option.bind_some, txt_eq]
  refine ⟨rdO c s yv mv dv, ?_, rdO_ok _ _ _ _ _ (by omega), rdO_cm _ _ _ _ _ fun y m d h e => ⟨(key y m d h e).1, (key y m d h e).2.1, (key y m d h e).2.2.1⟩⟩
  unfold rdO
  by_cases h : dateTxt yv mv dv = s
  · rw [if_pos h, if_pos h, implDayOf_is c yv mv dv k (by omega)]; rfl
  · rw [if_neg h, if_neg h]
/-! loops, by what they come to in the end ('Ev') -/
theorem ev_down {ρ : Type} {F : Nat → Int → Option ρ} {r : ρ} (n : Nat) (hs : ∀ i : Nat, i < n → Ev (fun k => F k ((i + 1 : Nat) : Int)) r → Ev (fun k => F k (i : Int)) r)
    (he : Ev (fun k => F k (n : Int)) r) : Ev (fun k => F k 0) r := by
  have h : ∀ d i : Nat, i + d = n → Ev (fun k => F k (i : Int)) r := by
    intro d
    induction d with
    | zero => intro i hi; obtain rfl : i = n := by omega
              exact he
    | succ d ih => intro i hi; exact hs i (by omega) (ih (i + 1) (by omega))
  exact h n 0 (by omega)
theorem ev_ex {ρ : Type} {F : Nat → Int → Option ρ} (n : Nat) (hs : ∀ i : Nat, i < n → (∃ r, Ev (fun k => F k ((i + 1 : Nat) : Int)) r) → ∃ r, Ev (fun k => F k (i : Int)) r)
    (he : ∃ r, Ev (fun k => F k (n : Int)) r) : ∃ r, Ev (fun k => F k 0) r := by
  have h : ∀ d i : Nat, i + d = n → ∃ r, Ev (fun k => F k (i : Int)) r := by
    intro d
    induction d with
    | zero => intro i hi; obtain rfl : i = n := by omega
              exact he
    | succ d ih => intro i hi; exact hs i (by omega) (ih (i + 1) (by omega))
  exact h n 0 (by omega)
theorem ev_to {α β : Type} {F : Nat → List β → Int → Option (List β)} (l : List α) (h : α → β) (z : β)
    (hs : ∀ (acc : List β) (i : Nat) (hi : i < l.length) (r : List β), acc.length = l.length → Ev (fun k => F k (acc.set i (h l[i])) ((i + 1 : Nat) : Int)) r → Ev (fun k => F k acc (i : Int)) r)
    (he : ∀ acc : List β, Ev (fun k => F k acc (l.length : Int)) acc) : Ev (fun k => F k (List.replicate l.length z) 0) (l.map h) := by
  have g : ∀ (d i : Nat) (acc : List β), i + d = l.length → acc.length = l.length → (∀ j : Nat, j < i → acc[j]? = (l.map h)[j]?) → Ev (fun k => F k acc (i : Int)) (l.map h) := by
    intro d
    induction d with
    | zero =>
      intro i acc hi hl hp
      obtain rfl : i = l.length := by omega
      have e : acc = l.map h := by
        refine List.ext_getElem? fun j => ?_
        by_cases hj : j < l.length
        · exact hp j hj
        · rw [List.getElem?_eq_none (by omega), List.getElem?_eq_none (by rw [List.length_map]; omega)]
      have := he acc
      rw [e] at this ⊢; exact this
    | succ d ih =>
      intro i acc hi hl hp
      refine hs acc i (by omega) _ hl (ih (i + 1) _ (by omega) (by rw [List.length_set]; exact hl) fun j hj => ?_)
      rw [List.getElem?_set]
      by_cases e : i = j
      · subst e
        rw [if_pos rfl, if_pos (by omega), List.getElem?_map, List.getElem?_eq_getElem (by omega)]; rfl
      · rw [if_neg e]; exact hp j (by omega)
  exact g l.length 0 _ (by omega) List.length_replicate (fun j hj => absurd hj (by omega))
theorem ev_sz {α : Type} {F : Nat → Int → Int → Option Int} (l : List α) (B : α → Prop)
    (hs : ∀ (i : Nat) (hi : i < l.length) (left : Int), 0 ≤ left → left ≤ 1048576 →
      Ev (fun k => F k left (i : Int)) (-1) ∨ (∃ left', 0 ≤ left' ∧ left' ≤ left ∧ B l[i] ∧ ∀ t, Ev (fun k => F k left' ((i + 1 : Nat) : Int)) t → Ev (fun k => F k left (i : Int)) t))
    (he : ∀ left, Ev (fun k => F k left (l.length : Int)) left) (left : Int) (h0 : 0 ≤ left) (h1 : left ≤ 1048576) :
    Ev (fun k => F k left 0) (-1) ∨ ∃ t, 0 ≤ t ∧ t ≤ left ∧ Ev (fun k => F k left 0) t ∧ ∀ x ∈ l, B x := by
  have g : ∀ (d i : Nat) (left : Int), i + d = l.length → 0 ≤ left → left ≤ 1048576 → Ev (fun k => F k left (i : Int)) (-1) ∨ ∃ t, 0 ≤ t ∧ t ≤ left ∧ Ev (fun k => F k left (i : Int)) t ∧ ∀ j (hj : j < l.length), i ≤ j → B l[j] := by
    intro d
    induction d with
    | zero =>
      intro i left hi h0 h1
      obtain rfl : i = l.length := by omega
      exact .inr ⟨left, h0, Int.le_refl _, he left, fun j hj hij => absurd hj (by omega)⟩
    | succ d ih =>
      intro i left hi h0 h1
      rcases hs i (by omega) left h0 h1 with h | ⟨left', g0, g1, hB, hk⟩
      · exact .inl h
      · rcases ih (i + 1) left' (by omega) g0 (by omega) with h | ⟨t, t0, t1, ht, hb⟩
        · exact .inl (hk _ h)
        · refine .inr ⟨t, t0, by omega, hk _ ht, fun j hj hij => ?_⟩
          by_cases e : i = j
          · subst e; exact hB
          · exact hb j hj (by omega)
  rcases g l.length 0 left (by omega) h0 h1 with h | ⟨t, t0, t1, ht, hb⟩
  · exact .inl h
  · refine .inr ⟨t, t0, t1, ht, fun x hx => ?_⟩
    obtain ⟨j, hj, rfl⟩ := List.getElem_of_mem hx
    exact hb j hj (Nat.zero_le _)
theorem getD_at {α : Type} (l : List α) (z : α) (i : Nat) (h : i < l.length) : l.getD ((i : Int)).toNat z = l[i] := by
  rw [Int.toNat_natCast, List.getD_eq_getElem?_getD, List.getElem?_eq_getElem h]; rfl
theorem ev_all {α : Type} {F : Nat → Int → Option Bool} (l : List α) (p : α → Bool) (b : Bool)
    (hs : ∀ (i : Nat) (hi : i < l.length) (r : Bool), p l[i] = true → Ev (fun k => F k ((i + 1 : Nat) : Int)) r → Ev (fun k => F k (i : Int)) r)
    (hf : ∀ (i : Nat) (hi : i < l.length) (r : Bool), p l[i] = false → Ev (fun k => F k ((i + 1 : Nat) : Int)) r → Ev (fun k => F k (i : Int)) false)
    (he : Ev (fun k => F k (l.length : Int)) b) : Ev (fun k => F k 0) (l.all p && b) := by
  have h : ∀ d i : Nat, i + d = l.length → Ev (fun k => F k (i : Int)) ((l.drop i).all p && b) := by
    intro d
    induction d with
    | zero =>
      intro i hi; obtain rfl : i = l.length := by omega
      rw [List.drop_length]; exact he
    | succ d ih =>
      intro i hi
      have hlt : i < l.length := by omega
      rw [List.drop_eq_getElem_cons hlt, List.all_cons]
      cases hp : p l[i]
      · exact hf i hlt _ hp (ih (i + 1) (by omega))
      · exact hs i hlt _ hp (ih (i + 1) (by omega))
  exact h l.length 0 (by omega)
/-- The day from which each calendar counts. -/
theorem specFirst_is (c y : Int) (hc : c = 1 ∨ c = 2) (h1 : -100000 ≤ y) (h2 : y ≤ 100000) : spec_l2First.f c y = some (ysV c y - bdV c, true) := by
  unfold spec_l2First.f
  rw [specDays_is c y hc h1 h2]
  have hb : -40000000 ≤ ysV c y ∧ ysV c y ≤ 40000000 := by unfold ysV; split <;> omega
  have hbb : 730485 ≤ bdV c ∧ bdV c ≤ 730487 := by unfold bdV; split <;> omega
  simp only [Option.bind_some]
  rcases hc with rfl | rfl
  · rw [if_neg (by omega), if_neg (by omega)]; congr 2; omega
  · rw [if_pos rfl, if_pos rfl, wrap_id (by omega) (by omega)]; congr 2; omega
theorem ysV_step (c y : Int) : ysV c y + 365 ≤ ysV c (y + 1) := by
  unfold ysV; split <;> omega
theorem ysV_len (c y : Int) (hc : c = 1 ∨ c = 2) : ysV c (y + 1) - ysV c y = sumM (leapB c y) 13 := by
  have e : sumM (leapB c y) 13 = if leapB c y = true then 366 else 365 := by cases leapB c y <;> rfl
  rw [e]
  unfold leapB ysV
  simp only [decide_eq_true_eq, tm_zero]
  rcases hc with rfl | rfl
  · rw [if_pos rfl, if_pos rfl]; split <;> omega
  · rw [if_neg (by omega), if_neg (by omega)]; split <;> omega
theorem ysV_mono (c : Int) (y : Int) : ∀ t : Nat, ysV c y + 365 * t ≤ ysV c (y + t)
  | 0 => by simp
  | t + 1 => by
    have := ysV_mono c y t; have h := ysV_step c (y + t)
    rw [show y + ((t + 1 : Nat) : Int) = y + t + 1 from by omega]; omega
theorem ysV_le (c : Int) {y z : Int} (h : y ≤ z) : ysV c y ≤ ysV c z := by
  obtain ⟨t, rfl⟩ : ∃ t : Nat, z = y + t := ⟨(z - y).toNat, by omega⟩
  have := ysV_mono c y t; omega
/-- The year of a day: the only one whose first day lies not behind it and whose next one's does. -/
theorem year_ex (c n : Int) (h1 : -300000 ≤ n) (h2 : n ≤ 1800000) : ∃ y, ysV c y ≤ n ∧ n < ysV c (y + 1) ∧ -1000 ≤ y ∧ y < 6000 := by
  have lo : ysV c (-1000) ≤ n := by have : ysV c (-1000) ≤ -300000 := by unfold ysV; split <;> omega
                                    omega
  have hi : n < ysV c 6000 := by have : 1800000 < ysV c 6000 := by unfold ysV; split <;> omega
                                 omega
  have g : ∀ t : Nat, n < ysV c (-1000 + t) → ∃ y, ysV c y ≤ n ∧ n < ysV c (y + 1) ∧ -1000 ≤ y ∧ y < -1000 + t := by
    intro t
    induction t with
    | zero => intro h; simp at h; omega
    | succ t ih =>
      intro h
      by_cases h0 : n < ysV c (-1000 + t)
      · obtain ⟨y, a, b, d, e⟩ := ih h0; exact ⟨y, a, b, d, by omega⟩
      · exact ⟨-1000 + t, by omega, by rw [show (-1000 : Int) + t + 1 = -1000 + ((t + 1 : Nat) : Int) from by omega]; exact h, by omega, by omega⟩
  obtain ⟨y, a, b, d, e⟩ := g 7000 (by rw [show (-1000 : Int) + ((7000 : Nat) : Int) = 6000 from by omega]; exact hi)
  exact ⟨y, a, b, d, by omega⟩
/-- The month and the day of what is left of a year, from month m on. -/
def moV (L : Bool) : Nat → Int → Int → Int × Int
  | 0, left, m => (m, left + 1)
  | t + 1, left, m => if left ≥ mdV m L then moV L t (left - mdV m L) (m + 1) else (m, left + 1)
theorem ev_up {ρ : Type} {F : Nat → Int → Option ρ} {r : ρ} (y z : Int) (h : y ≤ z) (hs : ∀ x, y ≤ x → x < z → Ev (fun k => F k (x + 1)) r → Ev (fun k => F k x) r) (he : Ev (fun k => F k z) r) : Ev (fun k => F k y) r := by
  have g : ∀ (d : Nat) (x : Int), x + d = z → y ≤ x → Ev (fun k => F k x) r := by
    intro d
    induction d with
    | zero => intro x hx hy; obtain rfl : x = z := by omega
              exact he
    | succ d ih => intro x hx hy; exact hs x hy (by omega) (ih (x + 1) (by omega) (by omega))
  exact g (z - y).toNat y (by omega) (by omega)
theorem ev_dn {ρ : Type} {F : Nat → Int → Option ρ} {r : ρ} (y z : Int) (h : z ≤ y) (hs : ∀ x, x ≤ y → z < x → Ev (fun k => F k (x - 1)) r → Ev (fun k => F k x) r) (he : Ev (fun k => F k z) r) : Ev (fun k => F k y) r := by
  have g : ∀ (d : Nat) (x : Int), x - d = z → x ≤ y → Ev (fun k => F k x) r := by
    intro d
    induction d with
    | zero => intro x hx hy; obtain rfl : x = z := by omega
              exact he
    | succ d ih => intro x hx hy; exact hs x hy (by omega) (ih (x - 1) (by omega) (by omega))
  exact g (y - z).toNat y (by omega) (by omega)
theorem specMonths (c y : Int) (hy1 : -100000 ≤ y) (hy2 : y ≤ 100000) : ∀ (t : Nat) (m : Nat) (left : Int), m + t = 13 → 1 ≤ m → 0 ≤ left → left < sumM (leapB c y) 13 - sumM (leapB c y) m →
    Ev (fun k => spec_l2DateOf.l1 k c left y m 1) (y, (moV (leapB c y) t left m).1, (moV (leapB c y) t left m).2) := by
  intro t
  induction t with
  | zero => intro m left h h1 h2 h3; obtain rfl : m = 13 := by omega
            omega
  | succ t ih =>
    intro m left h h1 h2 h3
    have hs := sumM_succ (leapB c y) m h1
    have hmd := mdV_le (m : Int) (leapB c y)
    have hle := sumM_le (leapB c y) 13
    have hle2 := sumM_le (leapB c y) m
    have hmd' := specMonthDays1_is c y m (by omega) (by omega) (by omega) (by omega)
    unfold moV
    by_cases hg : left ≥ mdV m (leapB c y)
    · rw [if_pos hg]
      have := ih (m + 1) (left - mdV m (leapB c y)) (by omega) (by omega) (by omega) (by rw [hs]; omega)
      refine Ev.step (fun k => ?_) this
      simp only [spec_l2DateOf.l1]
      rw [hmd']
      simp only [Option.bind_some]
      rw [if_pos hg, wrap_id (x := left - mdV m (leapB c y)) (by omega) (by omega), wrap_id (x := (m : Int) + 1) (by omega) (by omega)]; rfl
    · rw [if_neg hg]
      refine Ev.step (fun k => ?_) (Ev.now _)
      simp only [spec_l2DateOf.l1]
      rw [hmd']
      simp only [Option.bind_some]
      rw [if_neg hg, wrap_id (x := 1 + left) (by omega) (by omega), Int.add_comm 1 left]
theorem implMonths (c y : Int) : ∀ (t : Nat) (m : Nat) (left : Int), m + t = 13 → 1 ≤ m → 0 ≤ left → left < sumM (leapB c y) 13 - sumM (leapB c y) m →
    Ev (fun k => impl_dateOf.l2 k c y left m) (y, (moV (leapB c y) t left m).1, (moV (leapB c y) t left m).2) := by
  intro t
  induction t with
  | zero => intro m left h h1 h2 h3; obtain rfl : m = 13 := by omega
            omega
  | succ t ih =>
    intro m left h h1 h2 h3
    have hs := sumM_succ (leapB c y) m h1
    have hmd := mdV_le (m : Int) (leapB c y)
    have hle := sumM_le (leapB c y) 13
    have hle2 := sumM_le (leapB c y) m
    have hmd' := implMD c y m (by omega) (by omega)
    unfold moV
    by_cases hg : left ≥ mdV m (leapB c y)
    · rw [if_pos hg]
      have := ih (m + 1) (left - mdV m (leapB c y)) (by omega) (by omega) (by omega) (by rw [hs]; omega)
      refine Ev.step (fun k => ?_) this
      simp only [impl_dateOf.l2]
      rw [hmd']
      simp only [Option.bind_some]
      rw [if_pos hg, wrap_id (x := left - mdV m (leapB c y)) (by omega) (by omega), wrap_id (x := (m : Int) + 1) (by omega) (by omega)]; rfl
    · rw [if_neg hg]
      refine Ev.step (fun k => ?_) (Ev.now _)
      simp only [impl_dateOf.l2]
      rw [hmd']
      simp only [Option.bind_some]
      rw [if_neg hg, wrap_id (x := left + 1) (by omega) (by omega)]
theorem specDateOf_ev (c d y : Int) (hc : c = 1 ∨ c = 2) (hd1 : -1000100 ≤ d) (hd2 : d ≤ 1000100) (hy1 : ysV c y ≤ d + bdV c) (hy2 : d + bdV c < ysV c (y + 1)) (b1 : -1000 ≤ y) (b2 : y < 6000) :
    Ev (fun k => spec_l2DateOf.f k c d) (y, (moV (leapB c y) 12 (d + bdV c - ysV c y) 1).1, (moV (leapB c y) 12 (d + bdV c - ysV c y) 1).2) := by
  have hbb : 730485 ≤ bdV c ∧ bdV c ≤ 730487 := by unfold bdV; split <;> omega
  have hb : -40000000 ≤ ysV c y ∧ ysV c y ≤ 40000000 := by unfold ysV; split <;> omega
  have hlen := ysV_len c y hc
  have go : ∀ y0 : Int, y0 ≤ y → -10000 ≤ y0 → Ev (fun k => spec_l2DateOf.j0 k c d y0 1 1) (y, (moV (leapB c y) 12 (d + bdV c - ysV c y) 1).1, (moV (leapB c y) 12 (d + bdV c - ysV c y) 1).2) := by
    intro y0 h0 h00
    refine Ev.step (f := fun k => spec_l2DateOf.l0 k c d y0 1 1) (fun k => rfl) ?_
    refine ev_up (F := fun k x => spec_l2DateOf.l0 k c d x 1 1) y0 y h0 ?_ ?_
    · intro x hx1 hx2 h
      refine Ev.step (fun k => ?_) h
      have hm := ysV_le c (show x + 1 ≤ y by omega)
      simp only [spec_l2DateOf.l0]
      rw [wrap_id (x := x + 1) (by omega) (by omega), specFirst_is c (x + 1) hc (by omega) (by omega)]
      simp only [Option.bind_some]
      rw [if_neg (by omega)]
    · have := specMonths c y (by omega) (by omega) 12 1 (d + bdV c - ysV c y) (by omega) (by omega) (by omega) (by rw [← hlen]; simp only [sumM]; omega)
      refine Ev.step (fun k => ?_) this
      simp only [spec_l2DateOf.l0]
      rw [wrap_id (x := y + 1) (by omega) (by omega), specFirst_is c (y + 1) hc (by omega) (by omega)]
      simp only [Option.bind_some]
      rw [if_pos (by omega), specFirst_is c y hc (by omega) (by omega)]
      simp only [Option.bind_some]
      rw [wrap_id (x := d - (ysV c y - bdV c)) (by omega) (by omega), show d - (ysV c y - bdV c) = d + bdV c - ysV c y from by omega]; rfl
  have lo : ∀ y0 : Int, ysV c y0 ≤ d + bdV c → y0 ≤ y := by
    intro y0 h
    by_cases hh : y0 ≤ y
    · exact hh
    · have := ysV_le c (show y + 1 ≤ y0 by omega); omega
  unfold spec_l2DateOf.f
  rw [specFloor_is d 366 (by omega) (by omega) (by omega), specFloor_is d 365 (by omega) (by omega) (by omega)]
  simp only [Option.bind_some]
  rw [wrap_id (x := 2000 + d / 365) (by omega) (by omega), wrap_id (x := 2000 + d / 365 - 2) (by omega) (by omega), wrap_id (x := 2000 + d / 366) (by omega) (by omega), wrap_id (x := 2000 + d / 366 - 1) (by omega) (by omega)]
  by_cases hneg : d < 0
  · refine Ev.congr (f := fun k => spec_l2DateOf.j0 k c d (2000 + d / 365 - 2) 1 1) (fun k => by rw [if_pos hneg]) (go _ (lo _ ?_) (by omega))
    unfold ysV bdV; split <;> omega
  · refine Ev.congr (f := fun k => spec_l2DateOf.j0 k c d (2000 + d / 366 - 1) 1 1) (fun k => by rw [if_neg hneg]) (go _ (lo _ ?_) (by omega))
    unfold ysV bdV; split <;> omega
theorem baseDay_ev (c : Int) (hc : c = 1 ∨ c = 2) : Ev (fun k => impl_baseDay.f k c) (bdV c) := ⟨14, fun k hk => baseDay_is c k hk⟩
theorem implDateOf_ev (c d y : Int) (hc : c = 1 ∨ c = 2) (hd1 : -1000100 ≤ d) (hd2 : d ≤ 1000100) (hy1 : ysV c y ≤ d + bdV c) (hy2 : d + bdV c < ysV c (y + 1)) (b1 : -1000 ≤ y) (b2 : y < 6000) :
    Ev (fun k => impl_dateOf.f k c d) (y, (moV (leapB c y) 12 (d + bdV c - ysV c y) 1).1, (moV (leapB c y) 12 (d + bdV c - ysV c y) 1).2) := by
  have hbb : 730485 ≤ bdV c ∧ bdV c ≤ 730487 := by unfold bdV; split <;> omega
  have hb : -40000000 ≤ ysV c y ∧ ysV c y ≤ 40000000 := by unfold ysV; split <;> omega
  have hlen := ysV_len c y hc
  generalize hn : d + bdV c = n at *
  have fin : ∀ y0 : Int, y0 ≤ y → -10000 ≤ y0 → Ev (fun k => impl_dateOf.l1 k c n y0) (y, (moV (leapB c y) 12 (n - ysV c y) 1).1, (moV (leapB c y) 12 (n - ysV c y) 1).2) := by
    intro y0 h0 h00
    refine ev_up (F := fun k x => impl_dateOf.l1 k c n x) y0 y h0 ?_ ?_
    · intro x hx1 hx2 h
      refine Ev.step (fun k => ?_) h
      have hm := ysV_le c (show x + 1 ≤ y by omega)
      simp only [impl_dateOf.l1]
      rw [wrap_id (x := x + 1) (by omega) (by omega), yearStart_is c (x + 1) (by omega) (by omega)]
      simp only [Option.bind_some]
      rw [if_pos (by omega)]
    · have := implMonths c y 12 1 (n - ysV c y) (by omega) (by omega) (by omega) (by rw [← hlen]; simp only [sumM]; omega)
      refine Ev.step (fun k => ?_) this
      simp only [impl_dateOf.l1]
      rw [wrap_id (x := y + 1) (by omega) (by omega), yearStart_is c (y + 1) (by omega) (by omega)]
      simp only [Option.bind_some]
      rw [if_neg (by omega), yearStart_is c y (by omega) (by omega)]
      simp only [Option.bind_some]
      rw [wrap_id (x := n - ysV c y) (by omega) (by omega)]; rfl
  have go0 : ∀ y0 : Int, y0 ≤ y → -10000 ≤ y0 → Ev (fun k => impl_dateOf.l0 k c n y0) (y, (moV (leapB c y) 12 (n - ysV c y) 1).1, (moV (leapB c y) 12 (n - ysV c y) 1).2) := by
    intro y0 h0 h00
    refine Ev.step (fun k => ?_) (fin y0 h0 h00)
    have hm := ysV_le c h0
    simp only [impl_dateOf.l0]
    rw [yearStart_is c y0 (by omega) (by omega)]
    simp only [Option.bind_some]
    rw [if_neg (by omega)]
  have go : ∀ y0 : Int, -10000 ≤ y0 → y0 ≤ 10000 → Ev (fun k => impl_dateOf.l0 k c n y0) (y, (moV (leapB c y) 12 (n - ysV c y) 1).1, (moV (leapB c y) 12 (n - ysV c y) 1).2) := by
    intro y0 h00 h01
    by_cases h : y0 ≤ y
    · exact go0 y0 h h00
    · refine ev_dn (F := fun k x => impl_dateOf.l0 k c n x) y0 y (by omega) ?_ (go0 y (Int.le_refl _) (by omega))
      intro x hx1 hx2 hh
      refine Ev.step (fun k => ?_) hh
      have hm := ysV_le c (show y + 1 ≤ x by omega)
      simp only [impl_dateOf.l0]
      rw [yearStart_is c x (by omega) (by omega)]
      simp only [Option.bind_some]
      rw [if_pos (by omega), wrap_id (x := x - 1) (by omega) (by omega)]
  unfold impl_dateOf.f
  refine Ev.bind (baseDay_ev c hc) ?_
  rw [hn, wrap_id (x := n) (by omega) (by omega), floorDiv_is n 366 (by omega) (by omega) (by omega)]
  simp only [Option.bind_some]
  exact go (n / 366) (by omega) (by omega)
theorem floorMod_is (a b : Int) (hb : 0 < b) (hb2 : b ≤ 1000) (h1 : -1000000000 ≤ a) (h2 : a ≤ 1000000000) : impl_floorMod_int.f a b = some (a % b) := by
  unfold impl_floorMod_int.f
  rw [floorDiv_is a b hb (by omega) (by omega)]
  have e := Int.emod_add_mul_ediv a b
  have e2 := Int.emod_nonneg a (show b ≠ 0 by omega)
  have e3 := Int.emod_lt_of_pos a hb
  rw [Int.mul_comm b] at e
  simp only [Option.bind_some]
  generalize a / b * b = q at *
  rw [wrap_id (x := q) (by omega) (by omega), wrap_id (by omega) (by omega)]
  congr 1; omega

/-! the cursor that draws: it always answers -/
def Bytes (l : List Int) : Prop := ∀ x ∈ l, 0 ≤ x ∧ x ≤ 255
theorem bytes_of {l : List Int} (h : ∀ x ∈ l, (Lit.int .u8 x).wf = true) : Bytes l := fun x hx => by
  have := h x hx
  simpa [Lit.wf, IntKind.min, IntKind.max, IntKind.signed, IntKind.bits] using this
theorem wf64_of {x : Int} (h1 : -9223372036854775808 ≤ x) (h2 : x ≤ 9223372036854775807) : (Lit.int .i64 x).wf = true := by
  simp [Lit.wf, IntKind.min, IntKind.max, IntKind.signed, IntKind.bits]
  exact ⟨h1, h2⟩
theorem wrap_rng (x : Int) : -9223372036854775808 ≤ wrap64 x ∧ wrap64 x ≤ 9223372036854775807 := by unfold wrap64; omega
theorem wf_wrap (x : Int) : (Lit.int .i64 (wrap64 x)).wf = true := wf64_of (wrap_rng x).1 (wrap_rng x).2
theorem wrapu_rng (x : Int) : 0 ≤ IntKind.u64.wrap x ∧ IntKind.u64.wrap x < 18446744073709551616 := by
  have e : IntKind.u64.wrap x = x % 18446744073709551616 := rfl
  rw [e]; omega
theorem wrapu_id {x : Int} (h1 : 0 ≤ x) (h2 : x < 18446744073709551616) : IntKind.u64.wrap x = x := by
  have e : IntKind.u64.wrap x = x % 18446744073709551616 := rfl
  rw [e]; omega
theorem byte_rd {l : List Int} (hb : Bytes l) {i : Int} (h0 : 0 ≤ i) (h1 : i < l.length) : 0 ≤ rd l i ∧ rd l i ≤ 255 := by
  have hlt : i.toNat < l.length := by omega
  have e : rd l i = l[i.toNat] := by unfold rd; rw [List.getD_eq_getElem?_getD, List.getElem?_eq_getElem hlt]; rfl
  rw [e]; exact hb _ (List.getElem_mem hlt)
theorem and255 (x : Int) : 0 ≤ Go.bits .and .u64 x 255 ∧ Go.bits .and .u64 x 255 ≤ 255 := by
  show 0 ≤ IntKind.u64.wrap (((BitVec.ofInt 64 x) &&& (BitVec.ofInt 64 255)).toNat : Int) ∧ IntKind.u64.wrap (((BitVec.ofInt 64 x) &&& (BitVec.ofInt 64 255)).toNat : Int) ≤ 255
  have e : (BitVec.ofInt 64 255).toNat = 255 := by decide
  have h : ((BitVec.ofInt 64 x) &&& (BitVec.ofInt 64 255)).toNat ≤ 255 := by
    rw [BitVec.toNat_and, e]; exact Nat.and_le_right
  generalize ((BitVec.ofInt 64 x) &&& (BitVec.ofInt 64 255)).toNat = n at h
  rw [wrapu_id (by omega) (by omega)]; omega
theorem or_rng (p q : Int) : 0 ≤ Go.bits .or .u64 p q ∧ Go.bits .or .u64 p q < 18446744073709551616 := by
  show 0 ≤ IntKind.u64.wrap (((BitVec.ofInt 64 p) ||| (BitVec.ofInt 64 q)).toNat : Int) ∧ IntKind.u64.wrap (((BitVec.ofInt 64 p) ||| (BitVec.ofInt 64 q)).toNat : Int) < 18446744073709551616
  exact wrapu_rng _
theorem next_ok (l : List Int) (hb : Bytes l) (a s : Int) (h0 : 0 ≤ a) (h1 : a ≤ 4611686018427387904) : ∃ b s', spec_l1Cur_next.f l a s = some (b, a + 1, s') ∧ 0 ≤ b ∧ b ≤ 255 := by
  unfold spec_l1Cur_next.f
  have hw : wrap64 (a + 1) = a + 1 := wrap_id (by omega) (by omega)
  by_cases h : a < (l.length : Int)
  · have hr := byte_rd hb h0 h
    rw [if_pos h, if_pos h0, hw, if_pos (by omega)]
    exact ⟨_, _, rfl, by rw [wrap_id (by omega) (by omega)]; exact hr.1, by rw [wrap_id (by omega) (by omega)]; exact hr.2⟩
  · rw [if_neg h, hw, if_neg (by omega)]
    have h2 := and255 (IntKind.u64.wrap (IntKind.u64.wrap (IntKind.u64.wrap (s * 6364136223846793005) + 0) + 1442695040888963407) / 1099511627776)
    exact ⟨_, _, rfl, by rw [wrap_id (by omega) (by omega)]; exact h2.1, by rw [wrap_id (by omega) (by omega)]; exact h2.2⟩
theorem pick_ok (l : List Int) (hb : Bytes l) (a s n : Int) (h0 : 0 ≤ a) (h1 : a ≤ 4611686018427387000) : ∃ x a' s', spec_l1Cur_pick.f l a s n = some (x, a', s') ∧ a ≤ a' ∧ a' ≤ a + 2 ∧ 0 ≤ x ∧ (1 ≤ n → x < n) := by
  unfold spec_l1Cur_pick.f
  by_cases hn : n ≤ 1
  · rw [if_pos hn]; exact ⟨0, a, s, rfl, by omega, by omega, by omega, fun _ => by omega⟩
  · rw [if_neg hn]
    obtain ⟨b, s1, e1, b0, b1⟩ := next_ok l hb a s h0 (by omega)
    rw [e1]; simp only [Option.bind_some]
    by_cases hg : n > 200
    · rw [if_pos hg]
      obtain ⟨c, s2, e2, c0, c1⟩ := next_ok l hb (a + 1) s1 (by omega) (by omega)
      rw [e2]; simp only [Option.bind_some]
      rw [if_neg (by omega), wrap_id (x := b * 256) (by omega) (by omega), wrap_id (by omega) (by omega), tm_pos (by omega)]
      exact ⟨_, _, _, rfl, by omega, by omega, Int.emod_nonneg _ (by omega), fun _ => Int.emod_lt_of_pos _ (by omega)⟩
    · rw [if_neg hg, if_neg (by omega), tm_pos b0]
      exact ⟨_, _, _, rfl, by omega, by omega, Int.emod_nonneg _ (by omega), fun _ => Int.emod_lt_of_pos _ (by omega)⟩

theorem one_ok (l : List Int) (hb : Bytes l) (a s n : Int) (h0 : 0 ≤ a) (h1 : a ≤ 4611686018427387000) : ∃ x a' s', spec_l1Cur_one.f l a s n = some (x, a', s') ∧ a ≤ a' ∧ a' ≤ a + 2 := by
  obtain ⟨x, a', s', e, h2, h3, _⟩ := pick_ok l hb a s n h0 h1
  unfold spec_l1Cur_one.f
  rw [e]; exact ⟨_, a', s', rfl, h2, h3⟩

theorem wide_l0 (l : List Int) (hb : Bytes l) : ∀ (d : Nat) (x i a s : Int), (8 : Int) - i = d → 0 ≤ i → 0 ≤ a → a + d ≤ 4611686018427387000 → 0 ≤ x ∧ x < 18446744073709551616 →
    ∃ y a' s', Ev (fun k => spec_l1Cur_wide.l0 k x i l a s) (y, a', s') ∧ a' = a + d ∧ 0 ≤ y ∧ y < 18446744073709551616
  | 0, x, i, a, s, hd, h0, ha, h1, hx => ⟨x, a, s, Ev.step (f := fun _ => some (x, a, s)) (fun k => by simp only [spec_l1Cur_wide.l0]; rw [if_neg (by omega)]) (Ev.now _), by omega, hx.1, hx.2⟩
  | d + 1, x, i, a, s, hd, h0, ha, h1, hx => by
    obtain ⟨b, s1, e1, b0, b1⟩ := next_ok l hb a s ha (by omega)
    obtain ⟨y, a', s', e2, e3, e4, e5⟩ := wide_l0 l hb d (Go.bits .or .u64 (IntKind.u64.wrap (x * 256)) (IntKind.u64.wrap b)) (i + 1) (a + 1) s1 (by omega) (by omega) (by omega) (by omega) (or_rng _ _)
    refine ⟨y, a', s', Ev.step (f := fun k => spec_l1Cur_wide.l0 k (Go.bits .or .u64 (IntKind.u64.wrap (x * 256)) (IntKind.u64.wrap b)) (i + 1) l (a + 1) s1) (fun k => ?_) e2, by omega, e4, e5⟩
    simp only [spec_l1Cur_wide.l0]
    rw [if_pos (by omega), e1]; simp only [Option.bind_some]
    rw [wrap_id (x := i + 1) (by omega) (by omega)]
theorem wide_ok (l : List Int) (hb : Bytes l) (a s : Int) (h0 : 0 ≤ a) (h1 : a ≤ 4611686018427386000) : ∃ y a' s', Ev (fun k => spec_l1Cur_wide.f k l a s) (y, a', s') ∧ a ≤ a' ∧ a' ≤ a + 8 ∧ 0 ≤ y ∧ y < 18446744073709551616 := by
  obtain ⟨y, a', s', e, h2, h3, h4⟩ := wide_l0 l hb 8 0 0 a s (by omega) (by omega) h0 (by omega) (by omega)
  exact ⟨y, a', s', e, by omega, by omega, h3, h4⟩
theorem day_ok (l : List Int) (hb : Bytes l) (a s : Int) (h0 : 0 ≤ a) (h1 : a ≤ 4611686018427380000) : ∃ x a' s', Ev (fun k => spec_l1Cur_day.f k l a s) (x, a', s') ∧ a ≤ a' ∧ a' ≤ a + 10 ∧ -3000000 ≤ x ∧ x ≤ 3000000 := by
  obtain ⟨p, a1, s1, e1, h2, h3, p0, p1⟩ := pick_ok l hb a s 8 h0 (by omega)
  have p1 := p1 (by omega)
  by_cases c0 : p = 0
  · obtain ⟨q, a2, s2, e2, h4, h5, q0, q1⟩ := pick_ok l hb a1 s1 8 (by omega) (by omega)
    have q1 := q1 (by omega)
    refine ⟨rd [0, -1, 1000000, -1000000, 1000001, 59, 60, -36525] q, a2, s2, Ev.congr (f := fun _ => some (rd [0, -1, 1000000, -1000000, 1000001, 59, 60, -36525] q, a2, s2)) (fun k => ?_) (Ev.now _), by omega, by omega, ?_⟩
    · unfold spec_l1Cur_day.f
      rw [e1]; simp only [Option.bind_some]
      rw [if_pos c0, e2]; simp only [Option.bind_some]
      rw [if_pos q0, if_pos (by simp; omega)]
    · have hq : q = 0 ∨ q = 1 ∨ q = 2 ∨ q = 3 ∨ q = 4 ∨ q = 5 ∨ q = 6 ∨ q = 7 := by omega
      rcases hq with rfl | rfl | rfl | rfl | rfl | rfl | rfl | rfl <;> decide
  · by_cases c1 : p = 1
    · obtain ⟨q, a2, s2, e2, h4, h5, q0, q1⟩ := pick_ok l hb a1 s1 2000001 (by omega) (by omega)
      have q1 := q1 (by omega)
      refine ⟨q - 1000000, a2, s2, Ev.congr (f := fun _ => some (q - 1000000, a2, s2)) (fun k => ?_) (Ev.now _), by omega, by omega, by omega, by omega⟩
      unfold spec_l1Cur_day.f
      rw [e1]; simp only [Option.bind_some]
      rw [if_neg c0, if_pos c1, e2]; simp only [Option.bind_some]
      rw [wrap_id (by omega) (by omega)]
    · by_cases c2 : p = 2
      · obtain ⟨q, a2, s2, e2, h4, h5, q0, q1⟩ := wide_ok l hb a1 s1 (by omega) (by omega)
        refine ⟨q / 17592186044416 - 524288, a2, s2, Ev.congr (f := fun k => (spec_l1Cur_wide.f k l a1 s1).bind fun bt => some (wrap64 (wrap64 (bt.1 / 17592186044416) - 524288), bt.2.1, bt.2.2)) (fun k => ?_) (Ev.bind e2 (Ev.congr (f := fun _ => some (q / 17592186044416 - 524288, a2, s2)) (fun k => ?_) (Ev.now _))), by omega, by omega, by omega, by omega⟩
        · unfold spec_l1Cur_day.f
          rw [e1]; simp only [Option.bind_some]
          rw [if_neg c0, if_neg c1, if_pos c2]
        · show some (wrap64 (wrap64 (q / 17592186044416) - 524288), a2, s2) = _
          rw [wrap_id (x := q / 17592186044416) (by omega) (by omega), wrap_id (by omega) (by omega)]
      · obtain ⟨q, a2, s2, e2, h4, h5, q0, q1⟩ := pick_ok l hb a1 s1 9000 (by omega) (by omega)
        have q1 := q1 (by omega)
        refine ⟨q - 3000, a2, s2, Ev.congr (f := fun _ => some (q - 3000, a2, s2)) (fun k => ?_) (Ev.now _), by omega, by omega, by omega, by omega⟩
        unfold spec_l1Cur_day.f
        rw [e1]; simp only [Option.bind_some]
        rw [if_neg c0, if_neg c1, if_neg c2, e2]; simp only [Option.bind_some]
        rw [wrap_id (by omega) (by omega)]

theorem weekOf_both (d : Int) : ∃ r : Int × Int, Ev (fun k => spec_WeekOf.f k d) r ∧ Ev (fun k => impl_WeekOf.f k d) r := by
  have done : ∀ r : Int × Int, Ev (fun k => spec_WeekOf.f k d) r → Ev (fun k => impl_WeekOf.f k d) r → ∃ r : Int × Int, Ev (fun k => spec_WeekOf.f k d) r ∧ Ev (fun k => impl_WeekOf.f k d) r := fun r h1 h2 => ⟨r, h1, h2⟩
  by_cases hd : -1000000 ≤ d ∧ d ≤ 1000000
  · have hbb : 730485 ≤ bdV 1 ∧ bdV 1 ≤ 730487 := by unfold bdV; split <;> omega
    have hr := Int.emod_nonneg (d + 5) (show (7 : Int) ≠ 0 by omega)
    have hr2 := Int.emod_lt_of_pos (d + 5) (show (0 : Int) < 7 by omega)
    have hm1 := l2Mod_is (d + 5) 7 (by omega) (by omega) (by omega) (by omega)
    have hm2 := floorMod_is (d + 5) 7 (by omega) (by omega) (by omega) (by omega)
    generalize (d + 5) % 7 = R at *
    obtain ⟨y, y1, y2, y3, y4⟩ := year_ex 1 (d - R + 3 + bdV 1) (by omega) (by omega)
    have hb : -40000000 ≤ ysV 1 y ∧ ysV 1 y ≤ 40000000 := by unfold ysV; split <;> omega
    have hs := specDateOf_ev 1 (d - R + 3) y (.inl rfl) (by omega) (by omega) y1 y2 y3 y4
    have hi := implDateOf_ev 1 (d - R + 3) y (.inl rfl) (by omega) (by omega) y1 y2 y3 y4
    have hq1 : 0 ≤ Int.tdiv (d - R + 3 + bdV 1 - ysV 1 y) 7 ∧ Int.tdiv (d - R + 3 + bdV 1 - ysV 1 y) 7 ≤ 100000000 := by rw [td_pos (by omega)]; omega
    refine done (y, Int.tdiv (d - R + 3 + bdV 1 - ysV 1 y) 7 + 1) ?_ ?_
    · unfold spec_WeekOf.f
      refine Ev.congr (f := fun k => (spec_l2DateOf.f k 1 (d - R + 3)).bind fun bt129 => ((spec_l2First.f 1 bt129.1).bind fun bt132 => (some (bt129.1, wrap64 ((wrap64 (Int.tdiv (wrap64 (d - R + 3 - bt132.1)) 7)) + 1))))) (fun k => ?_) (Ev.bind hs ?_)
      · rw [specDay_is, decide_eq_true hd]
        simp only [Option.bind_some, if_true]
        rw [wrap_id (x := d + 5) (by omega) (by omega), hm1]
        simp only [Option.bind_some]
        rw [wrap_id (x := d - R) (by omega) (by omega), wrap_id (x := d - R + 3) (by omega) (by omega)]
      · rw [specFirst_is 1 y (.inl rfl) (by omega) (by omega)]
        simp only [Option.bind_some]
        rw [wrap_id (x := d - R + 3 - (ysV 1 y - bdV 1)) (by omega) (by omega), show d - R + 3 - (ysV 1 y - bdV 1) = d - R + 3 + bdV 1 - ysV 1 y from by omega]
        generalize Int.tdiv (d - R + 3 + bdV 1 - ysV 1 y) 7 = q at *
        rw [wrap_id (x := q) (by omega) (by omega), wrap_id (x := q + 1) (by omega) (by omega)]
        exact Ev.now _
    · unfold impl_WeekOf.f
      refine Ev.congr (f := fun k => (impl_dateOf.f k 1 (d - R + 3)).bind fun bt153 => ((impl_baseDay.f k 1).bind fun t156 => ((impl_yearStart.f 1 bt153.1).bind fun t157 => (some (bt153.1, wrap64 ((wrap64 (Int.tdiv (wrap64 ((wrap64 (d - R + 3 + t156)) - t157)) 7)) + 1)))))) (fun k => ?_) (Ev.bind hi (Ev.bind (baseDay_ev 1 (.inl rfl)) ?_))
      · rw [isDay_is, decide_eq_true hd]
        simp only [Option.bind_some, if_true]
        rw [wrap_id (x := d + 5) (by omega) (by omega), hm2]
        simp only [Option.bind_some]
        rw [wrap_id (x := d - R) (by omega) (by omega), wrap_id (x := d - R + 3) (by omega) (by omega)]
      · rw [yearStart_is 1 y (by omega) (by omega)]
        simp only [Option.bind_some]
        rw [wrap_id (x := d - R + 3 + bdV 1) (by omega) (by omega), wrap_id (x := d - R + 3 + bdV 1 - ysV 1 y) (by omega) (by omega)]
        generalize Int.tdiv (d - R + 3 + bdV 1 - ysV 1 y) 7 = q at *
        rw [wrap_id (x := q) (by omega) (by omega), wrap_id (x := q + 1) (by omega) (by omega)]
        exact Ev.now _
  · refine done (0, 0) ?_ ?_
    · unfold spec_WeekOf.f
      refine Ev.congr (f := fun _ => some (0, 0)) (fun k => ?_) (Ev.now _)
      rw [specDay_is, decide_eq_false hd]; rfl
    · unfold impl_WeekOf.f
      refine Ev.congr (f := fun _ => some (0, 0)) (fun k => ?_) (Ev.now _)
      rw [isDay_is, decide_eq_false hd]; rfl

theorem cal_ok (l : List Int) (hb : Bytes l) (a s : Int) (h0 : 0 ≤ a) (h1 : a ≤ 4611686018427380000) : ∃ x a' s', spec_l1Cur_cal.f l a s = some (x, a', s') ∧ a ≤ a' ∧ a' ≤ a + 4 ∧ 0 ≤ x ∧ x ≤ 4 := by
  obtain ⟨o, a1, s1, e1, h2, h3⟩ := one_ok l hb a s 30 h0 (by omega)
  unfold spec_l1Cur_cal.f
  rw [e1]; simp only [Option.bind_some]
  cases o with
  | true =>
    obtain ⟨p, a2, s2, e2, h4, h5, p0, p1⟩ := pick_ok l hb a1 s1 5 (by omega) (by omega)
    have p1 := p1 (by omega)
    rw [if_pos rfl, e2]; exact ⟨p, a2, s2, rfl, by omega, by omega, by omega, by omega⟩
  | false =>
    obtain ⟨p, a2, s2, e2, h4, h5, p0, p1⟩ := pick_ok l hb a1 s1 2 (by omega) (by omega)
    have p1 := p1 (by omega)
    rw [if_neg (by simp), e2]; simp only [Option.bind_some]
    rw [wrap_id (by omega) (by omega)]; exact ⟨_, a2, s2, rfl, by omega, by omega, by omega, by omega⟩
theorem date_ok (l : List Int) (hb : Bytes l) (a s : Int) (h0 : 0 ≤ a) (h1 : a ≤ 4611686018427380000) : ∃ y m d a' s', spec_l1Cur_date.f l a s = some (y, m, d, a', s') ∧ a ≤ a' ∧ a' ≤ a + 20 := by
  obtain ⟨p1, a1, s1, e1, h2, h3, _⟩ := pick_ok l hb a s 140 h0 (by omega)
  obtain ⟨p2, a2, s2, e2, h4, h5, _⟩ := pick_ok l hb a1 s1 12 (by omega) (by omega)
  obtain ⟨p3, a3, s3, e3, h6, h7, _⟩ := pick_ok l hb a2 s2 31 (by omega) (by omega)
  obtain ⟨p4, a4, s4, e4, h8, h9, _⟩ := pick_ok l hb a3 s3 7 (by omega) (by omega)
  unfold spec_l1Cur_date.f
  rw [e1]; simp only [Option.bind_some]; rw [e2]; simp only [Option.bind_some]; rw [e3]; simp only [Option.bind_some]; rw [e4]; simp only [Option.bind_some]
  by_cases c0 : p4 = 0
  · obtain ⟨p5, a5, s5, e5, g1, g2, _⟩ := pick_ok l hb a4 s4 16000 (by omega) (by omega)
    rw [if_pos c0, e5]; exact ⟨_, _, _, a5, s5, rfl, by omega, by omega⟩
  · by_cases c1 : p4 = 1
    · obtain ⟨p5, a5, s5, e5, g1, g2, _⟩ := pick_ok l hb a4 s4 14 (by omega) (by omega)
      rw [if_neg c0, if_pos c1, e5]; exact ⟨_, _, _, a5, s5, rfl, by omega, by omega⟩
    · by_cases c2 : p4 = 2
      · obtain ⟨p5, a5, s5, e5, g1, g2, _⟩ := pick_ok l hb a4 s4 30 (by omega) (by omega)
        obtain ⟨p6, a6, s6, e6, g3, g4, _⟩ := pick_ok l hb a5 s5 3 (by omega) (by omega)
        rw [if_neg c0, if_neg c1, if_pos c2, e5]; simp only [Option.bind_some]; rw [e6]; exact ⟨_, _, _, a6, s6, rfl, by omega, by omega⟩
      · rw [if_neg c0, if_neg c1, if_neg c2]; exact ⟨_, _, _, a4, s4, rfl, by omega, by omega⟩
theorem drawAdd_ok (l : List Int) (hb : Bytes l) : ∃ c y m d n, spec_DrawAddMonths.f l = some (c, y, m, d, n) ∧ -200000 ≤ n ∧ n ≤ 200000 := by
  obtain ⟨c, a1, s1, e1, h2, h3, _⟩ := cal_ok l hb 0 0 (by omega) (by omega)
  obtain ⟨y, m, d, a2, s2, e2, h4, h5⟩ := date_ok l hb a1 s1 (by omega) (by omega)
  obtain ⟨p, a3, s3, e3, h6, h7, p0, p1⟩ := pick_ok l hb a2 s2 60 (by omega) (by omega)
  have p1 := p1 (by omega)
  obtain ⟨o, a4, s4, e4, h8, h9⟩ := one_ok l hb a3 s3 5 (by omega) (by omega)
  unfold spec_DrawAddMonths.f
  rw [e1]; simp only [Option.bind_some]; rw [e2]; simp only [Option.bind_some]; rw [e3]; simp only [Option.bind_some]; rw [e4]; simp only [Option.bind_some]
  cases o with
  | true =>
    obtain ⟨q, a5, s5, e5, g1, g2, q0, q1⟩ := pick_ok l hb a4 s4 200010 (by omega) (by omega)
    have q1 := q1 (by omega)
    rw [if_pos rfl, e5]; simp only [Option.bind_some]; rw [wrap_id (x := q - 100005) (by omega) (by omega)]
    exact ⟨c, y, m, d, _, rfl, by omega, by omega⟩
  | false =>
    rw [if_neg (by simp), wrap_id (x := p - 25) (by omega) (by omega)]
    exact ⟨c, y, m, d, _, rfl, by omega, by omega⟩
/-! a day's date, and the next day's -/
theorem mdV28 (m : Int) (L : Bool) : 28 ≤ mdV m L ∧ mdV m L ≤ 31 := mdV_le m L
theorem sumM_up (L : Bool) (a : Nat) (ha : 1 ≤ a) : ∀ t : Nat, sumM L a ≤ sumM L (a + t)
  | 0 => Int.le_refl _
  | t + 1 => by
    have ih := sumM_up L a ha t
    have := sumM_succ L (a + t) (by omega)
    have h2 := mdV28 ((a + t : Nat) : Int) L
    rw [show a + (t + 1) = a + t + 1 from rfl, this]; omega
theorem moV_is (L : Bool) : ∀ (t m : Nat) (left : Int), m + t = 13 → 1 ≤ m → 0 ≤ left → left < sumM L 13 - sumM L m →
    ∃ M : Nat, (moV L t left m).1 = (M : Int) ∧ m ≤ M ∧ M ≤ 12 ∧ 1 ≤ (moV L t left m).2 ∧ (moV L t left m).2 ≤ mdV (M : Int) L ∧ sumM L M + (moV L t left m).2 - 1 = sumM L m + left
  | 0, m, left, hm, h1, h0, hl => by
    obtain rfl : m = 13 := by omega
    omega
  | t + 1, m, left, hm, h1, h0, hl => by
    have hs := sumM_succ L m h1
    unfold moV
    by_cases c : left ≥ mdV (m : Int) L
    · rw [if_pos c]
      have ih := moV_is L t (m + 1) (left - mdV (m : Int) L) (by omega) (by omega) (by omega) (by omega)
      rw [show (((m + 1 : Nat)) : Int) = (m : Int) + 1 from rfl] at ih
      obtain ⟨M, g1, g2, g3, g4, g5, g6⟩ := ih
      exact ⟨M, g1, by omega, g3, g4, g5, by omega⟩
    · rw [if_neg c]
      exact ⟨m, rfl, Nat.le_refl _, by omega, by show 1 ≤ left + 1; omega, by show left + 1 ≤ _; omega, by show _ + (left + 1) - 1 = _; omega⟩
theorem moV_next (L : Bool) : ∀ (t m : Nat) (left : Int), m + t = 13 → 1 ≤ m → 0 ≤ left → left + 1 < sumM L 13 - sumM L m →
    (moV L t (left + 1) m).2 = if (moV L t left m).2 = mdV (moV L t left m).1 L then 1 else (moV L t left m).2 + 1
  | 0, m, left, hm, h1, h0, hl => by
    obtain rfl : m = 13 := by omega
    omega
  | t + 1, m, left, hm, h1, h0, hl => by
    have hs := sumM_succ L m h1
    have h28 := mdV28 (m : Int) L
    unfold moV
    by_cases c : left ≥ mdV (m : Int) L
    · rw [if_pos c, if_pos (by omega)]
      have ih := moV_next L t (m + 1) (left - mdV (m : Int) L) (by omega) (by omega) (by omega) (by omega)
      rw [show (((m + 1 : Nat)) : Int) = (m : Int) + 1 from rfl] at ih
      rw [show left + 1 - mdV (m : Int) L = left - mdV (m : Int) L + 1 from by omega]
      exact ih
    · rw [if_neg c]
      by_cases c2 : left + 1 ≥ mdV (m : Int) L
      · rw [if_pos c2, if_pos (show left + 1 = mdV (m : Int) L by omega), show left + 1 - mdV (m : Int) L = 0 from by omega]
        cases t with
        | zero => rfl
        | succ t =>
          have := mdV28 ((m : Int) + 1) L
          unfold moV
          rw [if_neg (by omega)]; rfl
      · rw [if_neg c2, if_neg (show ¬ left + 1 = mdV (m : Int) L by omega)]
/-- A day's date in a calendar: year, month, day. -/
theorem dateOf_both (c d : Int) : ∃ r : Int × Int × Int, Ev (fun k => spec_DateOf.f k c d) r ∧ Ev (fun k => impl_DateOf.f k c d) r ∧
    (r = (0, 0, 0) ∨ ((-1000000 ≤ d ∧ d ≤ 1000000) ∧ (c = 1 ∨ c = 2) ∧ ∃ y, ysV c y ≤ d + bdV c ∧ d + bdV c < ysV c (y + 1) ∧ -1000 ≤ y ∧ y < 6000 ∧ r = (y, (moV (leapB c y) 12 (d + bdV c - ysV c y) 1).1, (moV (leapB c y) 12 (d + bdV c - ysV c y) 1).2))) := by
  by_cases hd : -1000000 ≤ d ∧ d ≤ 1000000
  · by_cases hc : c = 1 ∨ c = 2
    · have hbb : 730485 ≤ bdV c ∧ bdV c ≤ 730487 := by unfold bdV; split <;> omega
      obtain ⟨y, y1, y2, y3, y4⟩ := year_ex c (d + bdV c) (by omega) (by omega)
      have hs := specDateOf_ev c d y hc (by omega) (by omega) y1 y2 y3 y4
      have hi := implDateOf_ev c d y hc (by omega) (by omega) y1 y2 y3 y4
      refine ⟨(y, (moV (leapB c y) 12 (d + bdV c - ysV c y) 1).1, (moV (leapB c y) 12 (d + bdV c - ysV c y) 1).2), ?_, ?_, .inr ⟨hd, hc, y, y1, y2, y3, y4, rfl⟩⟩
      · unfold spec_DateOf.f
        refine Ev.congr (f := fun k => (spec_l2DateOf.f k c d).bind fun bt130 => (some (bt130.1, bt130.2.1, bt130.2.2))) (fun k => ?_) (Ev.bind hs (Ev.now _))
        rw [specCal_is, specDay_is, decide_eq_true hc, decide_eq_true hd]; rfl
      · unfold impl_DateOf.f
        refine Ev.congr (f := fun k => (impl_dateOf.f k c d).bind fun bt130 => (some (bt130.1, bt130.2.1, bt130.2.2))) (fun k => ?_) (Ev.bind hi (Ev.now _))
        rw [isDay_is, decide_eq_true hd]
        simp only [Option.bind_some, if_true]
        rcases hc with rfl | rfl
        · rw [if_pos rfl]
        · rw [if_neg (by omega), if_pos rfl]
    · refine ⟨(0, 0, 0), ?_, ?_, .inl rfl⟩
      · unfold spec_DateOf.f
        refine Ev.congr (f := fun _ => some (0, 0, 0)) (fun k => ?_) (Ev.now _)
        rw [specCal_is, decide_eq_false hc]; rfl
      · unfold impl_DateOf.f
        refine Ev.congr (f := fun _ => some (0, 0, 0)) (fun k => ?_) (Ev.now _)
        rw [isDay_is, decide_eq_true hd]
        simp only [Option.bind_some, if_true]
        rw [if_neg (by omega), if_neg (by omega)]
  · refine ⟨(0, 0, 0), ?_, ?_, .inl rfl⟩
    · unfold spec_DateOf.f
      refine Ev.congr (f := fun _ => some (0, 0, 0)) (fun k => ?_) (Ev.now _)
      rw [specCal_is, specDay_is, decide_eq_false hd]
      cases decide (c = 1 ∨ c = 2) <;> rfl
    · unfold impl_DateOf.f
      refine Ev.congr (f := fun _ => some (0, 0, 0)) (fun k => ?_) (Ev.now _)
      rw [isDay_is, decide_eq_false hd]; rfl
theorem implDateOf_at (c d y : Int) (hc : c = 1 ∨ c = 2) (hd : -1000000 ≤ d ∧ d ≤ 1000000) (y1 : ysV c y ≤ d + bdV c) (y2 : d + bdV c < ysV c (y + 1)) (y3 : -1000 ≤ y) (y4 : y < 6000) :
    Ev (fun k => impl_DateOf.f k c d) (y, (moV (leapB c y) 12 (d + bdV c - ysV c y) 1).1, (moV (leapB c y) 12 (d + bdV c - ysV c y) 1).2) := by
  have hi := implDateOf_ev c d y hc (by omega) (by omega) y1 y2 y3 y4
  unfold impl_DateOf.f
  refine Ev.congr (f := fun k => (impl_dateOf.f k c d).bind fun bt130 => (some (bt130.1, bt130.2.1, bt130.2.2))) (fun k => ?_) (Ev.bind hi (Ev.now _))
  rw [isDay_is, decide_eq_true hd]
  simp only [Option.bind_some, if_true]
  rcases hc with rfl | rfl
  · rw [if_pos rfl]
  · rw [if_neg (by omega), if_pos rfl]
/-- The next day's day of the month. -/
theorem next_day (c d y : Int) (hc : c = 1 ∨ c = 2) (hd : -1000000 ≤ d ∧ d < 1000000) (y1 : ysV c y ≤ d + bdV c) (y2 : d + bdV c < ysV c (y + 1)) (y3 : -1000 ≤ y) (y4 : y < 6000) :
    ∃ a b e, Ev (fun k => impl_DateOf.f k c (d + 1)) (a, b, e) ∧ e = if (moV (leapB c y) 12 (d + bdV c - ysV c y) 1).2 = mdV (moV (leapB c y) 12 (d + bdV c - ysV c y) 1).1 (leapB c y) then 1 else (moV (leapB c y) 12 (d + bdV c - ysV c y) 1).2 + 1 := by
  have hlen := ysV_len c y hc
  have hbb : 730485 ≤ bdV c ∧ bdV c ≤ 730487 := by unfold bdV; split <;> omega
  have hs1 : sumM (leapB c y) 1 = 0 := rfl
  by_cases h : d + 1 + bdV c < ysV c (y + 1)
  · refine ⟨_, _, _, implDateOf_at c (d + 1) y hc (by omega) (by omega) h y3 y4, ?_⟩
    have := moV_next (leapB c y) 12 1 (d + bdV c - ysV c y) (by omega) (by omega) (by omega) (by omega)
    rw [show ((1 : Nat) : Int) = 1 from rfl] at this
    rw [show d + 1 + bdV c - ysV c y = d + bdV c - ysV c y + 1 from by omega]
    exact this
  · obtain ⟨z, z1, z2, z3, z4⟩ := year_ex c (d + 1 + bdV c) (by omega) (by omega)
    have hz : z = y + 1 := by
      by_cases q1 : z ≤ y
      · have := ysV_le c (show z + 1 ≤ y + 1 by omega); omega
      · by_cases q2 : z = y + 1
        · exact q2
        · have := ysV_le c (show y + 1 + 1 ≤ z by omega); have := ysV_step c (y + 1); omega
    subst hz
    refine ⟨_, _, _, implDateOf_at c (d + 1) (y + 1) hc (by omega) z1 z2 z3 z4, ?_⟩
    obtain ⟨M, g1, g2, g3, g4, g5, g6⟩ := moV_is (leapB c y) 12 1 (d + bdV c - ysV c y) (by omega) (by omega) (by omega) (by omega)
    rw [show ((1 : Nat) : Int) = 1 from rfl] at g1 g4 g5 g6
    have hs := sumM_succ (leapB c y) M (by omega)
    have hu := sumM_up (leapB c y) (M + 1) (by omega) (12 - M)
    rw [show M + 1 + (12 - M) = 13 from by omega] at hu
    rw [g1, if_pos (by omega), show d + 1 + bdV c - ysV c (y + 1) = 0 from by omega]
    have h28 := mdV28 1 (leapB c (y + 1))
    show (if (0 : Int) ≥ mdV 1 (leapB c (y + 1)) then moV (leapB c (y + 1)) 11 (0 - mdV 1 (leapB c (y + 1))) (1 + 1) else (1, 0 + 1)).2 = 1
    rw [if_neg (by omega)]; rfl
theorem weekday_val (d : Int) (h : -1000000 ≤ d ∧ d ≤ 1000000) : impl_Weekday.f d = some ((d + 5) % 7) := by
  unfold impl_Weekday.f
  rw [isDay_is, decide_eq_true h]
  simp only [Option.bind_some, if_true]
  rw [wrap_id (x := d + 5) (by omega) (by omega), floorMod_is (d + 5) 7 (by omega) (by omega) (by omega) (by omega)]; rfl
theorem weekday_both (d : Int) : ∃ v, impl_Weekday.f d = some v ∧ spec_Weekday.f d = some v := by
  by_cases h : -1000000 ≤ d ∧ d ≤ 1000000
  · refine ⟨_, weekday_val d h, ?_⟩
    unfold spec_Weekday.f
    rw [specDay_is, decide_eq_true h]
    simp only [Option.bind_some, if_true]
    rw [wrap_id (x := d + 5) (by omega) (by omega), l2Mod_is (d + 5) 7 (by omega) (by omega) (by omega) (by omega)]; rfl
  · refine ⟨-1, ?_, ?_⟩
    · unfold impl_Weekday.f; rw [isDay_is, decide_eq_false h]; rfl
    · unfold spec_Weekday.f; rw [specDay_is, decide_eq_false h]; rfl
/-! months added -/
def addV (c y m d n : Int) : Int × Int × Int :=
  if isDateB c y m d = true ∧ -100000 ≤ n ∧ n ≤ 100000 then
    (if goodYearB c ((y * 12 + m - 1 + n) / 12) = true then ((y * 12 + m - 1 + n) / 12, (y * 12 + m - 1 + n) % 12 + 1, min d (mdV ((y * 12 + m - 1 + n) % 12 + 1) (leapB c ((y * 12 + m - 1 + n) / 12)))) else (0, 0, 0))
  else (0, 0, 0)
theorem implAdd_is (k : Nat) (c y m d n : Int) : impl_AddMonths.f (k + 1) c y m d n = some (addV c y m d n) := by
  unfold impl_AddMonths.f addV
  rw [isDate_is]; simp only [Option.bind_some]
  cases hd : isDateB c y m d with
  | false => rw [if_neg (by simp), if_neg (by simp)]; rfl
  | true =>
    have hf := isDate_facts hd
    rw [if_pos rfl]
    by_cases h1 : n < -100000
    · rw [if_pos h1, if_neg (by omega)]; rfl
    · rw [if_neg h1]
      by_cases h2 : n > 100000
      · rw [decide_eq_true h2, if_neg (by omega)]; rfl
      · rw [decide_eq_false h2, if_pos ⟨rfl, by omega, by omega⟩, impl_AddMonths.j0, if_neg (by simp)]
        rw [wrap_id (x := y * 12) (by omega) (by omega), wrap_id (x := y * 12 + m) (by omega) (by omega), wrap_id (x := y * 12 + m - 1) (by omega) (by omega), wrap_id (x := y * 12 + m - 1 + n) (by omega) (by omega)]
        rw [floorDiv_is _ 12 (by omega) (by omega) (by omega), floorMod_is _ 12 (by omega) (by omega) (by omega) (by omega)]
        simp only [Option.bind_some]
        have r0 := Int.emod_nonneg (y * 12 + m - 1 + n) (show (12 : Int) ≠ 0 by omega)
        have r1 := Int.emod_lt_of_pos (y * 12 + m - 1 + n) (show (0 : Int) < 12 by omega)
        rw [implGoodYear_is]; simp only [Option.bind_some]
        cases hg : goodYearB c ((y * 12 + m - 1 + n) / 12) with
        | false => rw [if_neg (by simp), if_neg (by simp)]
        | true =>
          rw [if_pos rfl, if_pos rfl, wrap_id (x := (y * 12 + m - 1 + n) % 12 + 1) (by omega) (by omega), implMD c _ _ (by omega) (by omega)]
          simp only [Option.bind_some]
          congr 1; congr 1; congr 1
          unfold mn; omega
theorem specAdd_is (k : Nat) (c y m d n : Int) : spec_AddMonths.f (k + 14) c y m d n = some (addV c y m d n) := by
  unfold spec_AddMonths.f addV
  rw [specL2DayOf_is]; simp only [Option.bind_some]
  cases hd : isDateB c y m d with
  | false => rw [if_neg (by simp), if_neg (by simp)]; rfl
  | true =>
    have hf := isDate_facts hd
    rw [if_pos rfl, if_pos rfl]
    by_cases h1 : n < -100000
    · rw [if_pos h1, if_neg (by omega)]; rfl
    · rw [if_neg h1]
      by_cases h2 : n > 100000
      · rw [decide_eq_true h2, if_neg (by omega)]; rfl
      · rw [decide_eq_false h2, if_pos ⟨rfl, by omega, by omega⟩, spec_AddMonths.j0, if_neg (by simp)]
        rw [wrap_id (x := y * 12) (by omega) (by omega), wrap_id (x := y * 12 + m) (by omega) (by omega), wrap_id (x := y * 12 + m - 1) (by omega) (by omega), wrap_id (x := y * 12 + m - 1 + n) (by omega) (by omega)]
        rw [specFloor_is _ 12 (by omega) (by omega) (by omega), l2Mod_is _ 12 (by omega) (by omega) (by omega) (by omega)]
        simp only [Option.bind_some]
        have r0 := Int.emod_nonneg (y * 12 + m - 1 + n) (show (12 : Int) ≠ 0 by omega)
        have r1 := Int.emod_lt_of_pos (y * 12 + m - 1 + n) (show (0 : Int) < 12 by omega)
        have hgy : goodYearB c ((y * 12 + m - 1 + n) / 12) = decide (-5000 ≤ (y * 12 + m - 1 + n) / 12 ∧ (y * 12 + m - 1 + n) / 12 ≤ 9999) := by
          unfold goodYearB; rw [decide_eq_decide]; exact ⟨fun h => h.2, fun h => ⟨hf.1, h⟩⟩
        rw [specYear_is, ← hgy]; simp only [Option.bind_some]
        cases hg : goodYearB c ((y * 12 + m - 1 + n) / 12) with
        | false => rw [if_neg (by simp), if_neg (by simp)]
        | true =>
          have hg2 := hg; rw [hgy] at hg2; have hg3 := of_decide_eq_true hg2
          rw [if_pos rfl, if_pos rfl, wrap_id (x := 1 + (y * 12 + m - 1 + n) % 12) (by omega) (by omega), specMonthDays1_is c _ _ (by omega) (by omega) (by omega) (by omega)]
          simp only [Option.bind_some]
          rw [show 1 + (y * 12 + m - 1 + n) % 12 = (y * 12 + m - 1 + n) % 12 + 1 from by omega]
          by_cases h3 : d > mdV ((y * 12 + m - 1 + n) % 12 + 1) (leapB c ((y * 12 + m - 1 + n) / 12))
          · rw [if_pos h3]; congr 1; congr 1; congr 1; omega
          · rw [if_neg h3]; congr 1; congr 1; congr 1; omega
/-- Months added and taken away again. -/
theorem add_back (c y m d n : Int) (h : addV c y m d n ≠ (0, 0, 0)) : (addV c (addV c y m d n).1 (addV c y m d n).2.1 (addV c y m d n).2.2 (-n)).1 = y ∧ (addV c (addV c y m d n).1 (addV c y m d n).2.1 (addV c y m d n).2.2 (-n)).2.1 = m ∧ (addV c (addV c y m d n).1 (addV c y m d n).2.1 (addV c y m d n).2.2 (-n)).2.2 ≤ d := by
  by_cases h1 : isDateB c y m d = true ∧ -100000 ≤ n ∧ n ≤ 100000
  · by_cases h2 : goodYearB c ((y * 12 + m - 1 + n) / 12) = true
    · have e : addV c y m d n = ((y * 12 + m - 1 + n) / 12, (y * 12 + m - 1 + n) % 12 + 1, min d (mdV ((y * 12 + m - 1 + n) % 12 + 1) (leapB c ((y * 12 + m - 1 + n) / 12)))) := by unfold addV; rw [if_pos h1, if_pos h2]
      have hf := isDate_facts h1.1
      have hgy : goodYearB c y = true := by
        have := h1.1; unfold isDateB at this; simp only [Bool.and_eq_true] at this; exact this.2.1
      rw [e]
      have hmd := mdV28 ((y * 12 + m - 1 + n) % 12 + 1) (leapB c ((y * 12 + m - 1 + n) / 12))
      obtain ⟨Y, hY⟩ : ∃ Y, (y * 12 + m - 1 + n) / 12 = Y := ⟨_, rfl⟩
      obtain ⟨R, hR⟩ : ∃ R, (y * 12 + m - 1 + n) % 12 = R := ⟨_, rfl⟩
      rw [hY, hR] at hmd ⊢
      rw [hY] at h2
      have hq : Y * 12 + (R + 1) - 1 + -n = y * 12 + m - 1 := by omega
      have hb : isDateB c Y (R + 1) (min d (mdV (R + 1) (leapB c Y))) = true := by
        unfold isDateB
        rw [h2, decide_eq_true (show 1 ≤ R + 1 ∧ R + 1 ≤ 12 ∧ 1 ≤ min d (mdV (R + 1) (leapB c Y)) by omega), decide_eq_true (by omega)]; rfl
      have hy2 : (y * 12 + m - 1) / 12 = y := by omega
      have hm2 : (y * 12 + m - 1) % 12 + 1 = m := by omega
      have e2 : addV c Y (R + 1) (min d (mdV (R + 1) (leapB c Y))) (-n) = (y, m, min (min d (mdV (R + 1) (leapB c Y))) (mdV m (leapB c y))) := by
        unfold addV
        rw [if_pos ⟨hb, by omega, by omega⟩, hq, hy2, hm2, if_pos hgy]
      simp only
      rw [e2]
      exact ⟨rfl, rfl, by show min (min d _) _ ≤ d; omega⟩
    · exact absurd (by unfold addV; rw [if_pos h1, if_neg h2]) h
  · exact absurd (by unfold addV; rw [if_neg h1]) h
theorem law_j3 (l : List Int) (hb : Bytes l) : Ev (fun k => laws_FnDays.j3 k l false) true := by
  obtain ⟨c, y, m, d, n, e1, n1, n2⟩ := drawAdd_ok l hb
  refine ⟨20, fun k hk => ?_⟩
  obtain ⟨k, rfl⟩ : ∃ q, k = q + 1 + 14 + 1 := ⟨k - 16, by omega⟩
  show laws_FnDays.j3 (k + 1 + 14 + 1) l false = some true
  rw [laws_FnDays.j3, if_neg (by simp), e1]
  simp only [Option.bind_some]
  rw [implAdd_is (k + 14), specAdd_is (k + 1)]
  simp only [Option.bind_some]
  have hsame : (!((addV c y m d n).1 == (addV c y m d n).1) || (!((addV c y m d n).2.1 == (addV c y m d n).2.1) || !((addV c y m d n).2.2 == (addV c y m d n).2.2))) = false := by simp
  rw [hsame, if_neg (by simp)]
  by_cases h0 : ((addV c y m d n).1 == 0 && ((addV c y m d n).2.1 == 0 && (addV c y m d n).2.2 == 0)) = true
  · rw [if_pos h0]
  · rw [if_neg h0, wrap_id (x := -n) (by omega) (by omega), implAdd_is (k + 14)]
    simp only [Option.bind_some]
    have hne : addV c y m d n ≠ (0, 0, 0) := fun e => h0 (by rw [e]; rfl)
    obtain ⟨g1, g2, g3⟩ := add_back c y m d n hne
    rw [if_pos g1, if_pos g2, decide_eq_true g3]
theorem FnDays : ∀ (l0 : (List Int)), QL (QI .u8) l0 → ∃ k, laws_FnDays.f k l0 = some true := by
  intro l hb0
  have hb := bytes_of (fun x hx => hb0.2 x hx)
  refine Ev.rounds ?_
  unfold laws_FnDays.f
  by_cases hl : (l.length : Int) > 1048576
  · exact Ev.congr (f := fun _ => some true) (fun k => by rw [if_pos hl]) (Ev.now _)
  refine Ev.congr (fun k => by rw [if_neg hl]) ?_
  obtain ⟨c, a1, s1, e1, h2, h3, c0, c1⟩ := cal_ok l hb 0 0 (by omega) (by omega)
  obtain ⟨d, a2, s2, e2, h4, h5, d0, d1⟩ := day_ok l hb a1 s1 (by omega) (by omega)
  have hdraw : Ev (fun k => spec_DrawDateOf.f k l) (c, d) := by
    unfold spec_DrawDateOf.f
    refine Ev.congr (f := fun k => (spec_l1Cur_day.f k l a1 s1).bind fun bt => some (c, bt.1)) (fun k => by rw [e1]; rfl) (Ev.bind e2 (Ev.now _))
  obtain ⟨⟨Y, M, D⟩, hs, hi, hr⟩ := dateOf_both c d
  refine Ev.bind hdraw (Ev.bind hi (Ev.bind hs ?_))
  simp only [BEq.rfl, Bool.not_true, Bool.or_self, Bool.false_eq_true, if_false]
  rcases hr with hr | ⟨hd, hc, y, y1, y2, y3, y4, hr⟩
  · simp only [Prod.mk.injEq] at hr
    obtain ⟨rfl, rfl, rfl⟩ := hr
    obtain ⟨v, v1, v2⟩ := weekday_both d
    refine Ev.congr (f := fun _ => some true) (fun k => ?_) (Ev.now _)
    rw [if_pos (by rfl), v1, v2]; simp
  · have hlen := ysV_len c y hc
    have hbb : 730485 ≤ bdV c ∧ bdV c ≤ 730487 := by unfold bdV; split <;> omega
    have hs1 : sumM (leapB c y) 1 = 0 := rfl
    obtain ⟨Mn, g1, g2, g3, g4, g5, g6⟩ := moV_is (leapB c y) 12 1 (d + bdV c - ysV c y) (by omega) (by omega) (by omega) (by omega)
    rw [show ((1 : Nat) : Int) = 1 from rfl] at g1 g4 g5 g6
    simp only [Prod.mk.injEq] at hr
    obtain ⟨rfl, hM, hD⟩ := hr
    rw [← hD] at g4 g5 g6
    have hD31 : D ≤ 31 := by have := mdV28 (Mn : Int) (leapB c Y); omega
    have hMn : M = (Mn : Int) := by rw [hM, g1]
    have hmd := mdV28 M (leapB c Y)
    have hgy : goodYearB c Y = true := by unfold goodYearB; exact decide_eq_true ⟨hc, by omega, by omega⟩
    have hdate : isDateB c Y M D = true := by
      unfold isDateB
      rw [hgy, decide_eq_true (show 1 ≤ M ∧ M ≤ 12 ∧ 1 ≤ D by omega), decide_eq_true (show D ≤ mdV M (leapB c Y) by rw [hMn]; exact g5)]; rfl
    have hdc : dcV c Y M D - bdV c = d := by
      unfold dcV; rw [hMn, Int.toNat_natCast]; omega
    have hday : dayOfV c Y M D = (d, true) := by unfold dayOfV; rw [hdc, if_pos ⟨hdate, hd.1, hd.2⟩]
    have hnz : ¬ ((Y == 0 && (M == 0 && (D == 0))) = true) := by
      intro h; simp only [Bool.and_eq_true, beq_iff_eq] at h; omega
    refine Ev.congr (fun k => by rw [if_neg hnz]) ?_
    have hdo : Ev (fun k => impl_DayOf.f k c Y M D) (d, true) := ⟨14, fun k hk => by show impl_DayOf.f k c Y M D = _; rw [implDayOf_is c Y M D k hk, hday]⟩
    refine Ev.bind hdo ?_
    simp only [if_true, bne_self_eq_false]
    have hj3 := law_j3 l hb
    have hj2 : Ev (fun k => laws_FnDays.j2 k l c d false Y M D) true := by
      have hdb : dateB Y M D = true := by unfold dateB; exact decide_eq_true ⟨by omega, by omega, by omega, by omega, by omega, by omega⟩
      have ht : Ev (fun k => impl_DateText.f k Y M D) (dateTxt Y M D) := ⟨30, fun k hk => implDateText_is Y M D k hk⟩
      have hrd : Ev (fun k => impl_ReadDate.f k c (dateTxt Y M D)) (d, true) := ⟨80, fun k hk => by
        obtain ⟨o, ho, _, hcm⟩ := implReadD c (dateTxt Y M D) k hk
        show impl_ReadDate.f k c (dateTxt Y M D) = _
        rw [ho, hcm Y M D hdb rfl, hday]⟩
      refine Ev.step (fun k => by rw [laws_FnDays.j2, if_neg (by simp)]) (Ev.bind ht (Ev.bind hrd ?_))
      simp only [if_true, bne_self_eq_false]
      exact hj3
    have hj1 : Ev (fun k => laws_FnDays.j1 k l c d Y M D) true := by
      obtain ⟨⟨w1, w2⟩, hw1, hw2⟩ := weekOf_both d
      refine Ev.step (fun k => by rw [laws_FnDays.j1]) (Ev.bind hw2 (Ev.bind hw1 ?_))
      simp only [if_true, bne_self_eq_false]
      exact hj2
    by_cases hmax : d < 1000000
    · obtain ⟨a, b, e, hn, he⟩ := next_day c d Y hc ⟨hd.1, hmax⟩ y1 y2 y3 y4
      rw [← hM, ← hD] at he
      have hmdays : impl_MonthDays.f c Y M = some (mdV M (leapB c Y)) := by
        unfold impl_MonthDays.f
        rw [implGoodYear_is, hgy]; simp only [Option.bind_some, if_true]
        rw [if_neg (by omega), if_neg (by omega), implMD c Y M (by omega) (by omega)]; rfl
      have hwd : ((d + 1 + 5) % 7 : Int) = Int.tmod (wrap64 ((d + 5) % 7 + 1)) 7 := by
        rw [wrap_id (by omega) (by omega), tm_pos (by omega)]; omega
      refine Ev.step (f := fun k => (impl_DateOf.f k c (d + 1)).bind fun bt375 => ((impl_MonthDays.f c Y M).bind fun t379 => (if ((D == t379) != (bt375.2.2 == 1)) = true then (some false) else (if D = t379 then ((impl_Weekday.f (d + 1)).bind fun t380 => ((impl_Weekday.f d).bind fun t381 => (if t380 = (Int.tmod (wrap64 (t381 + 1)) 7) then (laws_FnDays.j1 k l c d Y M D) else (some false)))) else (if bt375.2.2 = (wrap64 (D + 1)) then ((impl_Weekday.f (d + 1)).bind fun t382 => ((impl_Weekday.f d).bind fun t383 => (if t382 = (Int.tmod (wrap64 (t383 + 1)) 7) then (laws_FnDays.j1 k l c d Y M D) else (some false)))) else (some false)))))) (fun k => ?_) (Ev.bind hn (Ev.congr (fun k => ?_) hj1))
      · rw [laws_FnDays.j0, if_neg (by simp), if_pos hmax, wrap_id (x := d + 1) (by omega) (by omega)]
      · simp only
        rw [hmdays]; simp only [Option.bind_some]
        rw [weekday_val (d + 1) (by omega), weekday_val d hd]; simp only [Option.bind_some]
        rw [if_pos hwd]
        by_cases hlast : D = mdV M (leapB c Y)
        · rw [if_pos hlast] at he
          rw [he, if_pos hlast, ← hlast, if_neg (by simp)]
        · rw [if_neg hlast] at he
          rw [he, if_neg hlast, if_neg (by
            rw [show (D == mdV M (leapB c Y)) = false from beq_eq_false_iff_ne.mpr hlast, show (D + 1 == 1) = false from beq_eq_false_iff_ne.mpr (by omega)]; simp), wrap_id (x := D + 1) (by omega) (by omega), if_pos rfl]
    · refine Ev.step (fun k => ?_) hj1
      rw [laws_FnDays.j0, if_neg (by simp), if_neg hmax]

end Go.Proofs.YtffamggcjijobaaDoor.Pure
